/- What is proved: AperOpen returns true, whatever the input (part 5 of 22). No conditions beyond those of the row. -/
import Derived.Test.YtkeognjggnmgmaaGreatDoorPD
set_option linter.unusedVariables false
set_option linter.unusedSimpArgs false
set_option linter.unusedSectionVars false
/- Printed: what surface.Check reckons on standard surfaces with one, two, three films. No program. -/
namespace Go.Rd
open Go Go.Eng Go.Ar
def cx0 (c : Int) (k : Int) (a0 : Int) (a1 : Int) (a2 : Int) (a3 : Int) (f0 : Int) (f1 : Int) (o : Int) (th : Int) (s : ByteArray) (se : Int) (ho : Int) (i0 : Int) (j0 : Int) (q0 : Int) : Bool := bif o != 0 then !eqBytes s { data := #[77, 73, 82, 82, 79, 82] } else false
def cx1 (c : Int) (k : Int) (a0 : Int) (a1 : Int) (a2 : Int) (a3 : Int) (f0 : Int) (f1 : Int) (o : Int) (th : Int) (s : ByteArray) (se : Int) (ho : Int) (i0 : Int) (j0 : Int) (q0 : Int) : Int := bif cx0 c k a0 a1 a2 a3 f0 f1 o th s se ho i0 j0 q0 then a0 else a0
def cx2 (c : Int) (k : Int) (a0 : Int) (a1 : Int) (a2 : Int) (a3 : Int) (f0 : Int) (f1 : Int) (o : Int) (th : Int) (s : ByteArray) (se : Int) (ho : Int) (i0 : Int) (j0 : Int) (q0 : Int) : Int := bif cx0 c k a0 a1 a2 a3 f0 f1 o th s se ho i0 j0 q0 then a1 else a1
def cx3 (c : Int) (k : Int) (a0 : Int) (a1 : Int) (a2 : Int) (a3 : Int) (f0 : Int) (f1 : Int) (o : Int) (th : Int) (s : ByteArray) (se : Int) (ho : Int) (i0 : Int) (j0 : Int) (q0 : Int) : Int := bif cx0 c k a0 a1 a2 a3 f0 f1 o th s se ho i0 j0 q0 then a2 else a2
def cx4 (c : Int) (k : Int) (a0 : Int) (a1 : Int) (a2 : Int) (a3 : Int) (f0 : Int) (f1 : Int) (o : Int) (th : Int) (s : ByteArray) (se : Int) (ho : Int) (i0 : Int) (j0 : Int) (q0 : Int) : Int := bif cx0 c k a0 a1 a2 a3 f0 f1 o th s se ho i0 j0 q0 then a3 else a3
def cx5 (c : Int) (k : Int) (a0 : Int) (a1 : Int) (a2 : Int) (a3 : Int) (f0 : Int) (f1 : Int) (o : Int) (th : Int) (s : ByteArray) (se : Int) (ho : Int) (i0 : Int) (j0 : Int) (q0 : Int) : Int := bif cx0 c k a0 a1 a2 a3 f0 f1 o th s se ho i0 j0 q0 then f0 else 0
def cx6 (c : Int) (k : Int) (a0 : Int) (a1 : Int) (a2 : Int) (a3 : Int) (f0 : Int) (f1 : Int) (o : Int) (th : Int) (s : ByteArray) (se : Int) (ho : Int) (i0 : Int) (j0 : Int) (q0 : Int) : Int := bif cx0 c k a0 a1 a2 a3 f0 f1 o th s se ho i0 j0 q0 then f1 else 0
def cx7 (c : Int) (k : Int) (a0 : Int) (a1 : Int) (a2 : Int) (a3 : Int) (f0 : Int) (f1 : Int) (o : Int) (th : Int) (s : ByteArray) (se : Int) (ho : Int) (i0 : Int) (j0 : Int) (q0 : Int) : Int := bif cx0 c k a0 a1 a2 a3 f0 f1 o th s se ho i0 j0 q0 then o else 0
def cx8 (c : Int) (k : Int) (a0 : Int) (a1 : Int) (a2 : Int) (a3 : Int) (f0 : Int) (f1 : Int) (o : Int) (th : Int) (s : ByteArray) (se : Int) (ho : Int) (i0 : Int) (j0 : Int) (q0 : Int) : Int := bif cx0 c k a0 a1 a2 a3 f0 f1 o th s se ho i0 j0 q0 then th else th
def cx9 (c : Int) (k : Int) (a0 : Int) (a1 : Int) (a2 : Int) (a3 : Int) (f0 : Int) (f1 : Int) (o : Int) (th : Int) (s : ByteArray) (se : Int) (ho : Int) (i0 : Int) (j0 : Int) (q0 : Int) : Bool := !bif
      (1 : Int) == 1 &&
        (c == c &&
          (k == k &&
            ((0 : Int) == 0 &&
              ((0 : Int) == 0 &&
                (o == cx7 c k a0 a1 a2 a3 f0 f1 o th s se ho i0 j0 q0 &&
                  (th == cx8 c k a0 a1 a2 a3 f0 f1 o th s se ho i0 j0 q0 &&
                    (se == se &&
                      (ho == ho &&
                        ((0 : Int) == 0 &&
                          ((0 : Int) == 0 &&
                            ((0 : Int) == 0 &&
                              ((0 : Int) == 0 &&
                                ((0 : Int) == 0 &&
                                  ((0 : Int) == 0 &&
                                    ((0 : Int) == 0 &&
                                      (a0 == cx1 c k a0 a1 a2 a3 f0 f1 o th s se ho i0 j0 q0 &&
                                        (a1 == cx2 c k a0 a1 a2 a3 f0 f1 o th s se ho i0 j0 q0 &&
                                          (a2 == cx3 c k a0 a1 a2 a3 f0 f1 o th s se ho i0 j0 q0 &&
                                            (a3 == cx4 c k a0 a1 a2 a3 f0 f1 o th s se ho i0 j0 q0 &&
                                              (f0 == cx5 c k a0 a1 a2 a3 f0 f1 o th s se ho i0 j0 q0 &&
                                                (f1 ==
                                                    cx6 c k a0 a1 a2 a3 f0 f1 o th s se ho i0 j0 q0 &&
                                                  (eqBytes s s && true)))))))))))))))))))))) then
    bif !(i0 == i0 && (j0 == j0 && (q0 == q0 && true))) then false else true
  else false
def cx11 (c : Int) (k : Int) (a0 : Int) (a1 : Int) (a2 : Int) (a3 : Int) (f0 : Int) (f1 : Int) (o : Int) (th : Int) (s : ByteArray) (se : Int) (ho : Int) (i0 : Int) (j0 : Int) (q0 : Int) : Bool := bif decide (c < (-1000000000 : Int)) then true
else decide (c > 1000000000)
def cx14 (c : Int) (k : Int) (a0 : Int) (a1 : Int) (a2 : Int) (a3 : Int) (f0 : Int) (f1 : Int) (o : Int) (th : Int) (s : ByteArray) (se : Int) (ho : Int) (i0 : Int) (j0 : Int) (q0 : Int) : Int := bif
    !cx11 c k a0 a1 a2 a3 f0 f1 o th s se ho i0 j0 q0 &&
      !bif decide (th < (-1000000000 : Int)) then true
        else decide (th > 1000000000) then
  (-1 : Int)
else
  bif cx11 c k a0 a1 a2 a3 f0 f1 o th s se ho i0 j0 q0 then 0
  else (2 : Int)
def cx15 (c : Int) (k : Int) (a0 : Int) (a1 : Int) (a2 : Int) (a3 : Int) (f0 : Int) (f1 : Int) (o : Int) (th : Int) (s : ByteArray) (se : Int) (ho : Int) (i0 : Int) (j0 : Int) (q0 : Int) : Bool := bif decide (a0 < (-1000000000 : Int)) then true
else decide (a0 > 1000000000)
def cx16 (c : Int) (k : Int) (a0 : Int) (a1 : Int) (a2 : Int) (a3 : Int) (f0 : Int) (f1 : Int) (o : Int) (th : Int) (s : ByteArray) (se : Int) (ho : Int) (i0 : Int) (j0 : Int) (q0 : Int) : Bool := bif decide (a1 < (-1000000000 : Int)) then true
else decide (a1 > 1000000000)
def cx17 (c : Int) (k : Int) (a0 : Int) (a1 : Int) (a2 : Int) (a3 : Int) (f0 : Int) (f1 : Int) (o : Int) (th : Int) (s : ByteArray) (se : Int) (ho : Int) (i0 : Int) (j0 : Int) (q0 : Int) : Bool := bif decide (a2 < (-1000000000 : Int)) then true
else decide (a2 > 1000000000)
def cx19 (c : Int) (k : Int) (a0 : Int) (a1 : Int) (a2 : Int) (a3 : Int) (f0 : Int) (f1 : Int) (o : Int) (th : Int) (s : ByteArray) (se : Int) (ho : Int) (i0 : Int) (j0 : Int) (q0 : Int) : Int := bif
    !cx15 c k a0 a1 a2 a3 f0 f1 o th s se ho i0 j0 q0 &&
      (!cx16 c k a0 a1 a2 a3 f0 f1 o th s se ho i0 j0 q0 &&
        (!cx17 c k a0 a1 a2 a3 f0 f1 o th s se ho i0 j0 q0 &&
          !bif decide (a3 < (-1000000000 : Int)) then true
            else decide (a3 > 1000000000))) then
  (-1 : Int)
else
  bif cx15 c k a0 a1 a2 a3 f0 f1 o th s se ho i0 j0 q0 then 0
  else
    bif cx16 c k a0 a1 a2 a3 f0 f1 o th s se ho i0 j0 q0 then
      (1 : Int)
    else
      bif cx17 c k a0 a1 a2 a3 f0 f1 o th s se ho i0 j0 q0 then
        (2 : Int)
      else (3 : Int)
def cx20 (c : Int) (k : Int) (a0 : Int) (a1 : Int) (a2 : Int) (a3 : Int) (f0 : Int) (f1 : Int) (o : Int) (th : Int) (s : ByteArray) (se : Int) (ho : Int) (i0 : Int) (j0 : Int) (q0 : Int) : Bool := bif decide (f0 < (-1000000000 : Int)) then true
else decide (f0 > 1000000000)
def cx21 (c : Int) (k : Int) (a0 : Int) (a1 : Int) (a2 : Int) (a3 : Int) (f0 : Int) (f1 : Int) (o : Int) (th : Int) (s : ByteArray) (se : Int) (ho : Int) (i0 : Int) (j0 : Int) (q0 : Int) : Int := bif
    !cx20 c k a0 a1 a2 a3 f0 f1 o th s se ho i0 j0 q0 &&
      !bif decide (f1 < (-1000000000 : Int)) then true
        else decide (f1 > 1000000000) then
  (-1 : Int)
else
  bif cx20 c k a0 a1 a2 a3 f0 f1 o th s se ho i0 j0 q0 then 0
  else (1 : Int)
def cx22 (c : Int) (k : Int) (a0 : Int) (a1 : Int) (a2 : Int) (a3 : Int) (f0 : Int) (f1 : Int) (o : Int) (th : Int) (s : ByteArray) (se : Int) (ho : Int) (i0 : Int) (j0 : Int) (q0 : Int) : Bool := !bif !decide (cx14 c k a0 a1 a2 a3 f0 f1 o th s se ho i0 j0 q0 ≥ 0) then
    bif !decide (cx19 c k a0 a1 a2 a3 f0 f1 o th s se ho i0 j0 q0 ≥ 0) then
      !decide (cx21 c k a0 a1 a2 a3 f0 f1 o th s se ho i0 j0 q0 ≥ 0)
    else false
  else false
def cx24 (c : Int) (k : Int) (a0 : Int) (a1 : Int) (a2 : Int) (a3 : Int) (f0 : Int) (f1 : Int) (o : Int) (th : Int) (s : ByteArray) (se : Int) (ho : Int) (i0 : Int) (j0 : Int) (q0 : Int) : Int := bif
    bif decide (k < (-100000000 : Int)) then true
    else decide (k > 100000000) then
  0
else (-1 : Int)
def cx25 (c : Int) (k : Int) (a0 : Int) (a1 : Int) (a2 : Int) (a3 : Int) (f0 : Int) (f1 : Int) (o : Int) (th : Int) (s : ByteArray) (se : Int) (ho : Int) (i0 : Int) (j0 : Int) (q0 : Int) : Bool := !bif !decide (cx24 c k a0 a1 a2 a3 f0 f1 o th s se ho i0 j0 q0 ≥ 0) then true else false
def cx27 (c : Int) (k : Int) (a0 : Int) (a1 : Int) (a2 : Int) (a3 : Int) (f0 : Int) (f1 : Int) (o : Int) (th : Int) (s : ByteArray) (se : Int) (ho : Int) (i0 : Int) (j0 : Int) (q0 : Int) : Int := bif
    bif decide (o < (-3 : Int)) then true
    else decide (o > 3) then
  0
else (-1 : Int)
def cx28 (c : Int) (k : Int) (a0 : Int) (a1 : Int) (a2 : Int) (a3 : Int) (f0 : Int) (f1 : Int) (o : Int) (th : Int) (s : ByteArray) (se : Int) (ho : Int) (i0 : Int) (j0 : Int) (q0 : Int) : Bool := bif decide (se < 0) then true else decide (se > 1000000000)
def cx29 (c : Int) (k : Int) (a0 : Int) (a1 : Int) (a2 : Int) (a3 : Int) (f0 : Int) (f1 : Int) (o : Int) (th : Int) (s : ByteArray) (se : Int) (ho : Int) (i0 : Int) (j0 : Int) (q0 : Int) : Int := bif
    !cx28 c k a0 a1 a2 a3 f0 f1 o th s se ho i0 j0 q0 &&
      !bif decide (ho < 0) then true else decide (ho > 1000000000) then
  (-1 : Int)
else
  bif cx28 c k a0 a1 a2 a3 f0 f1 o th s se ho i0 j0 q0 then 0
  else (1 : Int)
def cx30 (c : Int) (k : Int) (a0 : Int) (a1 : Int) (a2 : Int) (a3 : Int) (f0 : Int) (f1 : Int) (o : Int) (th : Int) (s : ByteArray) (se : Int) (ho : Int) (i0 : Int) (j0 : Int) (q0 : Int) : Bool := !bif !decide (cx27 c k a0 a1 a2 a3 f0 f1 o th s se ho i0 j0 q0 ≥ 0) then
    !decide (cx29 c k a0 a1 a2 a3 f0 f1 o th s se ho i0 j0 q0 ≥ 0)
  else false
def cx31 (c : Int) (k : Int) (a0 : Int) (a1 : Int) (a2 : Int) (a3 : Int) (f0 : Int) (f1 : Int) (o : Int) (th : Int) (s : ByteArray) (se : Int) (ho : Int) (i0 : Int) (j0 : Int) (q0 : Int) : Bool := !bif se == 0 then true else decide (ho < se)
def cx32 (c : Int) (k : Int) (a0 : Int) (a1 : Int) (a2 : Int) (a3 : Int) (f0 : Int) (f1 : Int) (o : Int) (th : Int) (s : ByteArray) (se : Int) (ho : Int) (i0 : Int) (j0 : Int) (q0 : Int) : Int := bif cx9 c k a0 a1 a2 a3 f0 f1 o th s se ho i0 j0 q0 then 110
else
  bif cx22 c k a0 a1 a2 a3 f0 f1 o th s se ho i0 j0 q0 then 110
  else
    bif cx25 c k a0 a1 a2 a3 f0 f1 o th s se ho i0 j0 q0 then 110
    else
      bif cx30 c k a0 a1 a2 a3 f0 f1 o th s se ho i0 j0 q0 then 110
      else bif cx31 c k a0 a1 a2 a3 f0 f1 o th s se ho i0 j0 q0 then 110 else 0
def cx33 (c : Int) (k : Int) (a0 : Int) (a1 : Int) (a2 : Int) (a3 : Int) (f0 : Int) (f1 : Int) (o : Int) (th : Int) (s : ByteArray) (se : Int) (ho : Int) (i0 : Int) (j0 : Int) (q0 : Int) : Int := bif bif decide (i0 < 10000000) then true else decide (i0 > 40000000) then 0
else (-1 : Int)
def cx34 (c : Int) (k : Int) (a0 : Int) (a1 : Int) (a2 : Int) (a3 : Int) (f0 : Int) (f1 : Int) (o : Int) (th : Int) (s : ByteArray) (se : Int) (ho : Int) (i0 : Int) (j0 : Int) (q0 : Int) : Int := bif bif decide (j0 < 0) then true else decide (j0 > 1000) then 0
else (-1 : Int)
def cx35 (c : Int) (k : Int) (a0 : Int) (a1 : Int) (a2 : Int) (a3 : Int) (f0 : Int) (f1 : Int) (o : Int) (th : Int) (s : ByteArray) (se : Int) (ho : Int) (i0 : Int) (j0 : Int) (q0 : Int) : Int := bif bif decide (q0 < 1) then true else decide (q0 > 1000) then 0
else (-1 : Int)
def cxN (c : Int) (k : Int) (a0 : Int) (a1 : Int) (a2 : Int) (a3 : Int) (f0 : Int) (f1 : Int) (o : Int) (th : Int) (s : ByteArray) (se : Int) (ho : Int) (i0 : Int) (j0 : Int) (q0 : Int) : Prop := ((((cx0 c k a0 a1 a2 a3 f0 f1 o th s se ho i0 j0 q0 = true → f0 = f0 ∧ f1 = f1) ∧
            (ho = ho ∧ se = se ∧ s = s ∧ k = k) ∧
              (ho = ho ∧ se = se ∧ s = s) ∧ (ho = ho ∧ se = se) ∧ ho = ho) ∧
          (c = c ∧
              k = k ∧
                a0 = a0 ∧
                  a1 = a1 ∧
                    a2 = a2 ∧
                      a3 = a3 ∧ f0 = f0 ∧ f1 = f1 ∧ o = o ∧ th = th ∧ s = s ∧ se = se ∧ ho = ho) ∧
            c = c ∧
              k = k ∧
                cx1 c k a0 a1 a2 a3 f0 f1 o th s se ho i0 j0 q0 =
                    cx1 c k a0 a1 a2 a3 f0 f1 o th s se ho i0 j0 q0 ∧
                  cx2 c k a0 a1 a2 a3 f0 f1 o th s se ho i0 j0 q0 =
                      cx2 c k a0 a1 a2 a3 f0 f1 o th s se ho i0 j0 q0 ∧
                    cx3 c k a0 a1 a2 a3 f0 f1 o th s se ho i0 j0 q0 =
                        cx3 c k a0 a1 a2 a3 f0 f1 o th s se ho i0 j0 q0 ∧
                      cx4 c k a0 a1 a2 a3 f0 f1 o th s se ho i0 j0 q0 =
                          cx4 c k a0 a1 a2 a3 f0 f1 o th s se ho i0 j0 q0 ∧
                        cx5 c k a0 a1 a2 a3 f0 f1 o th s se ho i0 j0 q0 =
                            cx5 c k a0 a1 a2 a3 f0 f1 o th s se ho i0 j0 q0 ∧
                          cx6 c k a0 a1 a2 a3 f0 f1 o th s se ho i0 j0 q0 =
                              cx6 c k a0 a1 a2 a3 f0 f1 o th s se ho i0 j0 q0 ∧
                            cx7 c k a0 a1 a2 a3 f0 f1 o th s se ho i0 j0 q0 =
                                cx7 c k a0 a1 a2 a3 f0 f1 o th s se ho i0 j0 q0 ∧
                              cx8 c k a0 a1 a2 a3 f0 f1 o th s se ho i0 j0 q0 =
                                  cx8 c k a0 a1 a2 a3 f0 f1 o th s se ho i0 j0 q0 ∧
                                s = s ∧ se = se ∧ ho = ho) ∧
        ((!cx9 c k a0 a1 a2 a3 f0 f1 o th s se ho i0 j0 q0) = true →
          (!cx22 c k a0 a1 a2 a3 f0 f1 o th s se ho i0 j0 q0) = true →
            (!cx25 c k a0 a1 a2 a3 f0 f1 o th s se ho i0 j0 q0) = true →
              (!cx30 c k a0 a1 a2 a3 f0 f1 o th s se ho i0 j0 q0) = true →
                (!cx31 c k a0 a1 a2 a3 f0 f1 o th s se ho i0 j0 q0) = true →
                  eqBytes s { data := #[] } = false → isG s))
def cxV (c : Int) (k : Int) (a0 : Int) (a1 : Int) (a2 : Int) (a3 : Int) (f0 : Int) (f1 : Int) (o : Int) (th : Int) (s : ByteArray) (se : Int) (ho : Int) (i0 : Int) (j0 : Int) (q0 : Int) : Int := (bif
          bif cx32 c k a0 a1 a2 a3 f0 f1 o th s se ho i0 j0 q0 == 0 then
            !bif !decide (cx33 c k a0 a1 a2 a3 f0 f1 o th s se ho i0 j0 q0 ≥ 0) then
                bif !decide (cx34 c k a0 a1 a2 a3 f0 f1 o th s se ho i0 j0 q0 ≥ 0) then
                  !decide (cx35 c k a0 a1 a2 a3 f0 f1 o th s se ho i0 j0 q0 ≥ 0)
                else false
              else false
          else false then
        110
      else cx32 c k a0 a1 a2 a3 f0 f1 o th s se ho i0 j0 q0)
def cy0 (c : Int) (k : Int) (a0 : Int) (a1 : Int) (a2 : Int) (a3 : Int) (f0 : Int) (f1 : Int) (o : Int) (th : Int) (s : ByteArray) (se : Int) (ho : Int) (i0 : Int) (j0 : Int) (q0 : Int) (i1 : Int) (j1 : Int) (q1 : Int) : Bool := bif o != 0 then !eqBytes s { data := #[77, 73, 82, 82, 79, 82] } else false
def cy1 (c : Int) (k : Int) (a0 : Int) (a1 : Int) (a2 : Int) (a3 : Int) (f0 : Int) (f1 : Int) (o : Int) (th : Int) (s : ByteArray) (se : Int) (ho : Int) (i0 : Int) (j0 : Int) (q0 : Int) (i1 : Int) (j1 : Int) (q1 : Int) : Int := bif cy0 c k a0 a1 a2 a3 f0 f1 o th s se ho i0 j0 q0 i1 j1 q1 then a0 else a0
def cy2 (c : Int) (k : Int) (a0 : Int) (a1 : Int) (a2 : Int) (a3 : Int) (f0 : Int) (f1 : Int) (o : Int) (th : Int) (s : ByteArray) (se : Int) (ho : Int) (i0 : Int) (j0 : Int) (q0 : Int) (i1 : Int) (j1 : Int) (q1 : Int) : Int := bif cy0 c k a0 a1 a2 a3 f0 f1 o th s se ho i0 j0 q0 i1 j1 q1 then a1 else a1
def cy3 (c : Int) (k : Int) (a0 : Int) (a1 : Int) (a2 : Int) (a3 : Int) (f0 : Int) (f1 : Int) (o : Int) (th : Int) (s : ByteArray) (se : Int) (ho : Int) (i0 : Int) (j0 : Int) (q0 : Int) (i1 : Int) (j1 : Int) (q1 : Int) : Int := bif cy0 c k a0 a1 a2 a3 f0 f1 o th s se ho i0 j0 q0 i1 j1 q1 then a2 else a2
def cy4 (c : Int) (k : Int) (a0 : Int) (a1 : Int) (a2 : Int) (a3 : Int) (f0 : Int) (f1 : Int) (o : Int) (th : Int) (s : ByteArray) (se : Int) (ho : Int) (i0 : Int) (j0 : Int) (q0 : Int) (i1 : Int) (j1 : Int) (q1 : Int) : Int := bif cy0 c k a0 a1 a2 a3 f0 f1 o th s se ho i0 j0 q0 i1 j1 q1 then a3 else a3
def cy5 (c : Int) (k : Int) (a0 : Int) (a1 : Int) (a2 : Int) (a3 : Int) (f0 : Int) (f1 : Int) (o : Int) (th : Int) (s : ByteArray) (se : Int) (ho : Int) (i0 : Int) (j0 : Int) (q0 : Int) (i1 : Int) (j1 : Int) (q1 : Int) : Int := bif cy0 c k a0 a1 a2 a3 f0 f1 o th s se ho i0 j0 q0 i1 j1 q1 then f0 else 0
def cy6 (c : Int) (k : Int) (a0 : Int) (a1 : Int) (a2 : Int) (a3 : Int) (f0 : Int) (f1 : Int) (o : Int) (th : Int) (s : ByteArray) (se : Int) (ho : Int) (i0 : Int) (j0 : Int) (q0 : Int) (i1 : Int) (j1 : Int) (q1 : Int) : Int := bif cy0 c k a0 a1 a2 a3 f0 f1 o th s se ho i0 j0 q0 i1 j1 q1 then f1 else 0
def cy7 (c : Int) (k : Int) (a0 : Int) (a1 : Int) (a2 : Int) (a3 : Int) (f0 : Int) (f1 : Int) (o : Int) (th : Int) (s : ByteArray) (se : Int) (ho : Int) (i0 : Int) (j0 : Int) (q0 : Int) (i1 : Int) (j1 : Int) (q1 : Int) : Int := bif cy0 c k a0 a1 a2 a3 f0 f1 o th s se ho i0 j0 q0 i1 j1 q1 then o else 0
def cy8 (c : Int) (k : Int) (a0 : Int) (a1 : Int) (a2 : Int) (a3 : Int) (f0 : Int) (f1 : Int) (o : Int) (th : Int) (s : ByteArray) (se : Int) (ho : Int) (i0 : Int) (j0 : Int) (q0 : Int) (i1 : Int) (j1 : Int) (q1 : Int) : Int := bif cy0 c k a0 a1 a2 a3 f0 f1 o th s se ho i0 j0 q0 i1 j1 q1 then th else th
def cy9 (c : Int) (k : Int) (a0 : Int) (a1 : Int) (a2 : Int) (a3 : Int) (f0 : Int) (f1 : Int) (o : Int) (th : Int) (s : ByteArray) (se : Int) (ho : Int) (i0 : Int) (j0 : Int) (q0 : Int) (i1 : Int) (j1 : Int) (q1 : Int) : Bool := !bif
      (1 : Int) == 1 &&
        (c == c &&
          (k == k &&
            ((0 : Int) == 0 &&
              ((0 : Int) == 0 &&
                (o == cy7 c k a0 a1 a2 a3 f0 f1 o th s se ho i0 j0 q0 i1 j1 q1 &&
                  (th == cy8 c k a0 a1 a2 a3 f0 f1 o th s se ho i0 j0 q0 i1 j1 q1 &&
                    (se == se &&
                      (ho == ho &&
                        ((0 : Int) == 0 &&
                          ((0 : Int) == 0 &&
                            ((0 : Int) == 0 &&
                              ((0 : Int) == 0 &&
                                ((0 : Int) == 0 &&
                                  ((0 : Int) == 0 &&
                                    ((0 : Int) == 0 &&
                                      (a0 ==
                                          cy1 c k a0 a1 a2 a3 f0 f1 o th s se ho i0 j0 q0 i1 j1 q1 &&
                                        (a1 ==
                                            cy2 c k a0 a1 a2 a3 f0 f1 o th s se ho i0 j0 q0 i1 j1
                                              q1 &&
                                          (a2 ==
                                              cy3 c k a0 a1 a2 a3 f0 f1 o th s se ho i0 j0 q0 i1 j1
                                                q1 &&
                                            (a3 ==
                                                cy4 c k a0 a1 a2 a3 f0 f1 o th s se ho i0 j0 q0 i1 j1
                                                  q1 &&
                                              (f0 ==
                                                  cy5 c k a0 a1 a2 a3 f0 f1 o th s se ho i0 j0 q0 i1 j1
                                                    q1 &&
                                                (f1 ==
                                                    cy6 c k a0 a1 a2 a3 f0 f1 o th s se ho i0 j0 q0 i1
                                                      j1 q1 &&
                                                  (eqBytes s s && true)))))))))))))))))))))) then
    bif
        !!(i0 == i0 && (j0 == j0 && (q0 == q0 && true))) &&
          !!(i1 == i1 && (j1 == j1 && (q1 == q1 && true))) then
      true
    else false
  else false
def cy11 (c : Int) (k : Int) (a0 : Int) (a1 : Int) (a2 : Int) (a3 : Int) (f0 : Int) (f1 : Int) (o : Int) (th : Int) (s : ByteArray) (se : Int) (ho : Int) (i0 : Int) (j0 : Int) (q0 : Int) (i1 : Int) (j1 : Int) (q1 : Int) : Bool := bif decide (c < (-1000000000 : Int)) then true
else decide (c > 1000000000)
def cy14 (c : Int) (k : Int) (a0 : Int) (a1 : Int) (a2 : Int) (a3 : Int) (f0 : Int) (f1 : Int) (o : Int) (th : Int) (s : ByteArray) (se : Int) (ho : Int) (i0 : Int) (j0 : Int) (q0 : Int) (i1 : Int) (j1 : Int) (q1 : Int) : Int := bif
    !cy11 c k a0 a1 a2 a3 f0 f1 o th s se ho i0 j0 q0 i1 j1 q1 &&
      !bif decide (th < (-1000000000 : Int)) then true
        else decide (th > 1000000000) then
  (-1 : Int)
else
  bif cy11 c k a0 a1 a2 a3 f0 f1 o th s se ho i0 j0 q0 i1 j1 q1 then 0
  else (2 : Int)
def cy15 (c : Int) (k : Int) (a0 : Int) (a1 : Int) (a2 : Int) (a3 : Int) (f0 : Int) (f1 : Int) (o : Int) (th : Int) (s : ByteArray) (se : Int) (ho : Int) (i0 : Int) (j0 : Int) (q0 : Int) (i1 : Int) (j1 : Int) (q1 : Int) : Bool := bif decide (a0 < (-1000000000 : Int)) then true
else decide (a0 > 1000000000)
def cy16 (c : Int) (k : Int) (a0 : Int) (a1 : Int) (a2 : Int) (a3 : Int) (f0 : Int) (f1 : Int) (o : Int) (th : Int) (s : ByteArray) (se : Int) (ho : Int) (i0 : Int) (j0 : Int) (q0 : Int) (i1 : Int) (j1 : Int) (q1 : Int) : Bool := bif decide (a1 < (-1000000000 : Int)) then true
else decide (a1 > 1000000000)
def cy17 (c : Int) (k : Int) (a0 : Int) (a1 : Int) (a2 : Int) (a3 : Int) (f0 : Int) (f1 : Int) (o : Int) (th : Int) (s : ByteArray) (se : Int) (ho : Int) (i0 : Int) (j0 : Int) (q0 : Int) (i1 : Int) (j1 : Int) (q1 : Int) : Bool := bif decide (a2 < (-1000000000 : Int)) then true
else decide (a2 > 1000000000)
def cy19 (c : Int) (k : Int) (a0 : Int) (a1 : Int) (a2 : Int) (a3 : Int) (f0 : Int) (f1 : Int) (o : Int) (th : Int) (s : ByteArray) (se : Int) (ho : Int) (i0 : Int) (j0 : Int) (q0 : Int) (i1 : Int) (j1 : Int) (q1 : Int) : Int := bif
    !cy15 c k a0 a1 a2 a3 f0 f1 o th s se ho i0 j0 q0 i1 j1 q1 &&
      (!cy16 c k a0 a1 a2 a3 f0 f1 o th s se ho i0 j0 q0 i1 j1 q1 &&
        (!cy17 c k a0 a1 a2 a3 f0 f1 o th s se ho i0 j0 q0 i1 j1 q1 &&
          !bif decide (a3 < (-1000000000 : Int)) then true
            else decide (a3 > 1000000000))) then
  (-1 : Int)
else
  bif cy15 c k a0 a1 a2 a3 f0 f1 o th s se ho i0 j0 q0 i1 j1 q1 then 0
  else
    bif cy16 c k a0 a1 a2 a3 f0 f1 o th s se ho i0 j0 q0 i1 j1 q1 then
      (1 : Int)
    else
      bif cy17 c k a0 a1 a2 a3 f0 f1 o th s se ho i0 j0 q0 i1 j1 q1 then
        (2 : Int)
      else (3 : Int)
def cy20 (c : Int) (k : Int) (a0 : Int) (a1 : Int) (a2 : Int) (a3 : Int) (f0 : Int) (f1 : Int) (o : Int) (th : Int) (s : ByteArray) (se : Int) (ho : Int) (i0 : Int) (j0 : Int) (q0 : Int) (i1 : Int) (j1 : Int) (q1 : Int) : Bool := bif decide (f0 < (-1000000000 : Int)) then true
else decide (f0 > 1000000000)
def cy21 (c : Int) (k : Int) (a0 : Int) (a1 : Int) (a2 : Int) (a3 : Int) (f0 : Int) (f1 : Int) (o : Int) (th : Int) (s : ByteArray) (se : Int) (ho : Int) (i0 : Int) (j0 : Int) (q0 : Int) (i1 : Int) (j1 : Int) (q1 : Int) : Int := bif
    !cy20 c k a0 a1 a2 a3 f0 f1 o th s se ho i0 j0 q0 i1 j1 q1 &&
      !bif decide (f1 < (-1000000000 : Int)) then true
        else decide (f1 > 1000000000) then
  (-1 : Int)
else
  bif cy20 c k a0 a1 a2 a3 f0 f1 o th s se ho i0 j0 q0 i1 j1 q1 then 0
  else (1 : Int)
def cy22 (c : Int) (k : Int) (a0 : Int) (a1 : Int) (a2 : Int) (a3 : Int) (f0 : Int) (f1 : Int) (o : Int) (th : Int) (s : ByteArray) (se : Int) (ho : Int) (i0 : Int) (j0 : Int) (q0 : Int) (i1 : Int) (j1 : Int) (q1 : Int) : Bool := !bif !decide (cy14 c k a0 a1 a2 a3 f0 f1 o th s se ho i0 j0 q0 i1 j1 q1 ≥ 0) then
    bif !decide (cy19 c k a0 a1 a2 a3 f0 f1 o th s se ho i0 j0 q0 i1 j1 q1 ≥ 0) then
      !decide (cy21 c k a0 a1 a2 a3 f0 f1 o th s se ho i0 j0 q0 i1 j1 q1 ≥ 0)
    else false
  else false
def cy24 (c : Int) (k : Int) (a0 : Int) (a1 : Int) (a2 : Int) (a3 : Int) (f0 : Int) (f1 : Int) (o : Int) (th : Int) (s : ByteArray) (se : Int) (ho : Int) (i0 : Int) (j0 : Int) (q0 : Int) (i1 : Int) (j1 : Int) (q1 : Int) : Int := bif
    bif decide (k < (-100000000 : Int)) then true
    else decide (k > 100000000) then
  0
else (-1 : Int)
def cy25 (c : Int) (k : Int) (a0 : Int) (a1 : Int) (a2 : Int) (a3 : Int) (f0 : Int) (f1 : Int) (o : Int) (th : Int) (s : ByteArray) (se : Int) (ho : Int) (i0 : Int) (j0 : Int) (q0 : Int) (i1 : Int) (j1 : Int) (q1 : Int) : Bool := !bif !decide (cy24 c k a0 a1 a2 a3 f0 f1 o th s se ho i0 j0 q0 i1 j1 q1 ≥ 0) then true else false
def cy27 (c : Int) (k : Int) (a0 : Int) (a1 : Int) (a2 : Int) (a3 : Int) (f0 : Int) (f1 : Int) (o : Int) (th : Int) (s : ByteArray) (se : Int) (ho : Int) (i0 : Int) (j0 : Int) (q0 : Int) (i1 : Int) (j1 : Int) (q1 : Int) : Int := bif
    bif decide (o < (-3 : Int)) then true
    else decide (o > 3) then
  0
else (-1 : Int)
def cy28 (c : Int) (k : Int) (a0 : Int) (a1 : Int) (a2 : Int) (a3 : Int) (f0 : Int) (f1 : Int) (o : Int) (th : Int) (s : ByteArray) (se : Int) (ho : Int) (i0 : Int) (j0 : Int) (q0 : Int) (i1 : Int) (j1 : Int) (q1 : Int) : Bool := bif decide (se < 0) then true else decide (se > 1000000000)
def cy29 (c : Int) (k : Int) (a0 : Int) (a1 : Int) (a2 : Int) (a3 : Int) (f0 : Int) (f1 : Int) (o : Int) (th : Int) (s : ByteArray) (se : Int) (ho : Int) (i0 : Int) (j0 : Int) (q0 : Int) (i1 : Int) (j1 : Int) (q1 : Int) : Int := bif
    !cy28 c k a0 a1 a2 a3 f0 f1 o th s se ho i0 j0 q0 i1 j1 q1 &&
      !bif decide (ho < 0) then true else decide (ho > 1000000000) then
  (-1 : Int)
else
  bif cy28 c k a0 a1 a2 a3 f0 f1 o th s se ho i0 j0 q0 i1 j1 q1 then 0
  else (1 : Int)
def cy30 (c : Int) (k : Int) (a0 : Int) (a1 : Int) (a2 : Int) (a3 : Int) (f0 : Int) (f1 : Int) (o : Int) (th : Int) (s : ByteArray) (se : Int) (ho : Int) (i0 : Int) (j0 : Int) (q0 : Int) (i1 : Int) (j1 : Int) (q1 : Int) : Bool := !bif !decide (cy27 c k a0 a1 a2 a3 f0 f1 o th s se ho i0 j0 q0 i1 j1 q1 ≥ 0) then
    !decide (cy29 c k a0 a1 a2 a3 f0 f1 o th s se ho i0 j0 q0 i1 j1 q1 ≥ 0)
  else false
def cy31 (c : Int) (k : Int) (a0 : Int) (a1 : Int) (a2 : Int) (a3 : Int) (f0 : Int) (f1 : Int) (o : Int) (th : Int) (s : ByteArray) (se : Int) (ho : Int) (i0 : Int) (j0 : Int) (q0 : Int) (i1 : Int) (j1 : Int) (q1 : Int) : Bool := !bif se == 0 then true else decide (ho < se)
def cy32 (c : Int) (k : Int) (a0 : Int) (a1 : Int) (a2 : Int) (a3 : Int) (f0 : Int) (f1 : Int) (o : Int) (th : Int) (s : ByteArray) (se : Int) (ho : Int) (i0 : Int) (j0 : Int) (q0 : Int) (i1 : Int) (j1 : Int) (q1 : Int) : Int := bif cy9 c k a0 a1 a2 a3 f0 f1 o th s se ho i0 j0 q0 i1 j1 q1 then 110
else
  bif cy22 c k a0 a1 a2 a3 f0 f1 o th s se ho i0 j0 q0 i1 j1 q1 then 110
  else
    bif cy25 c k a0 a1 a2 a3 f0 f1 o th s se ho i0 j0 q0 i1 j1 q1 then 110
    else
      bif cy30 c k a0 a1 a2 a3 f0 f1 o th s se ho i0 j0 q0 i1 j1 q1 then 110
      else bif cy31 c k a0 a1 a2 a3 f0 f1 o th s se ho i0 j0 q0 i1 j1 q1 then 110 else 0
def cy33 (c : Int) (k : Int) (a0 : Int) (a1 : Int) (a2 : Int) (a3 : Int) (f0 : Int) (f1 : Int) (o : Int) (th : Int) (s : ByteArray) (se : Int) (ho : Int) (i0 : Int) (j0 : Int) (q0 : Int) (i1 : Int) (j1 : Int) (q1 : Int) : Int := bif bif decide (i0 < 10000000) then true else decide (i0 > 40000000) then 0
else (-1 : Int)
def cy34 (c : Int) (k : Int) (a0 : Int) (a1 : Int) (a2 : Int) (a3 : Int) (f0 : Int) (f1 : Int) (o : Int) (th : Int) (s : ByteArray) (se : Int) (ho : Int) (i0 : Int) (j0 : Int) (q0 : Int) (i1 : Int) (j1 : Int) (q1 : Int) : Int := bif bif decide (j0 < 0) then true else decide (j0 > 1000) then 0
else (-1 : Int)
def cy35 (c : Int) (k : Int) (a0 : Int) (a1 : Int) (a2 : Int) (a3 : Int) (f0 : Int) (f1 : Int) (o : Int) (th : Int) (s : ByteArray) (se : Int) (ho : Int) (i0 : Int) (j0 : Int) (q0 : Int) (i1 : Int) (j1 : Int) (q1 : Int) : Int := bif bif decide (q0 < 1) then true else decide (q0 > 1000) then 0
else (-1 : Int)
def cy36 (c : Int) (k : Int) (a0 : Int) (a1 : Int) (a2 : Int) (a3 : Int) (f0 : Int) (f1 : Int) (o : Int) (th : Int) (s : ByteArray) (se : Int) (ho : Int) (i0 : Int) (j0 : Int) (q0 : Int) (i1 : Int) (j1 : Int) (q1 : Int) : Int := bif
    bif cy32 c k a0 a1 a2 a3 f0 f1 o th s se ho i0 j0 q0 i1 j1 q1 == 0 then
      !bif !decide (cy33 c k a0 a1 a2 a3 f0 f1 o th s se ho i0 j0 q0 i1 j1 q1 ≥ 0) then
          bif !decide (cy34 c k a0 a1 a2 a3 f0 f1 o th s se ho i0 j0 q0 i1 j1 q1 ≥ 0) then
            !decide (cy35 c k a0 a1 a2 a3 f0 f1 o th s se ho i0 j0 q0 i1 j1 q1 ≥ 0)
          else false
        else false
    else false then
  110
else cy32 c k a0 a1 a2 a3 f0 f1 o th s se ho i0 j0 q0 i1 j1 q1
def cy37 (c : Int) (k : Int) (a0 : Int) (a1 : Int) (a2 : Int) (a3 : Int) (f0 : Int) (f1 : Int) (o : Int) (th : Int) (s : ByteArray) (se : Int) (ho : Int) (i0 : Int) (j0 : Int) (q0 : Int) (i1 : Int) (j1 : Int) (q1 : Int) : Int := bif bif decide (i1 < 10000000) then true else decide (i1 > 40000000) then 0
else (-1 : Int)
def cy38 (c : Int) (k : Int) (a0 : Int) (a1 : Int) (a2 : Int) (a3 : Int) (f0 : Int) (f1 : Int) (o : Int) (th : Int) (s : ByteArray) (se : Int) (ho : Int) (i0 : Int) (j0 : Int) (q0 : Int) (i1 : Int) (j1 : Int) (q1 : Int) : Int := bif bif decide (j1 < 0) then true else decide (j1 > 1000) then 0
else (-1 : Int)
def cy39 (c : Int) (k : Int) (a0 : Int) (a1 : Int) (a2 : Int) (a3 : Int) (f0 : Int) (f1 : Int) (o : Int) (th : Int) (s : ByteArray) (se : Int) (ho : Int) (i0 : Int) (j0 : Int) (q0 : Int) (i1 : Int) (j1 : Int) (q1 : Int) : Int := bif bif decide (q1 < 1) then true else decide (q1 > 1000) then 0
else (-1 : Int)
def cyN (c : Int) (k : Int) (a0 : Int) (a1 : Int) (a2 : Int) (a3 : Int) (f0 : Int) (f1 : Int) (o : Int) (th : Int) (s : ByteArray) (se : Int) (ho : Int) (i0 : Int) (j0 : Int) (q0 : Int) (i1 : Int) (j1 : Int) (q1 : Int) : Prop := ((((cy0 c k a0 a1 a2 a3 f0 f1 o th s se ho i0 j0 q0 i1 j1 q1 = true → f0 = f0 ∧ f1 = f1) ∧
            (ho = ho ∧ se = se ∧ s = s ∧ k = k) ∧
              (ho = ho ∧ se = se ∧ s = s) ∧ (ho = ho ∧ se = se) ∧ ho = ho) ∧
          (c = c ∧
              k = k ∧
                a0 = a0 ∧
                  a1 = a1 ∧
                    a2 = a2 ∧
                      a3 = a3 ∧ f0 = f0 ∧ f1 = f1 ∧ o = o ∧ th = th ∧ s = s ∧ se = se ∧ ho = ho) ∧
            c = c ∧
              k = k ∧
                cy1 c k a0 a1 a2 a3 f0 f1 o th s se ho i0 j0 q0 i1 j1 q1 =
                    cy1 c k a0 a1 a2 a3 f0 f1 o th s se ho i0 j0 q0 i1 j1 q1 ∧
                  cy2 c k a0 a1 a2 a3 f0 f1 o th s se ho i0 j0 q0 i1 j1 q1 =
                      cy2 c k a0 a1 a2 a3 f0 f1 o th s se ho i0 j0 q0 i1 j1 q1 ∧
                    cy3 c k a0 a1 a2 a3 f0 f1 o th s se ho i0 j0 q0 i1 j1 q1 =
                        cy3 c k a0 a1 a2 a3 f0 f1 o th s se ho i0 j0 q0 i1 j1 q1 ∧
                      cy4 c k a0 a1 a2 a3 f0 f1 o th s se ho i0 j0 q0 i1 j1 q1 =
                          cy4 c k a0 a1 a2 a3 f0 f1 o th s se ho i0 j0 q0 i1 j1 q1 ∧
                        cy5 c k a0 a1 a2 a3 f0 f1 o th s se ho i0 j0 q0 i1 j1 q1 =
                            cy5 c k a0 a1 a2 a3 f0 f1 o th s se ho i0 j0 q0 i1 j1 q1 ∧
                          cy6 c k a0 a1 a2 a3 f0 f1 o th s se ho i0 j0 q0 i1 j1 q1 =
                              cy6 c k a0 a1 a2 a3 f0 f1 o th s se ho i0 j0 q0 i1 j1 q1 ∧
                            cy7 c k a0 a1 a2 a3 f0 f1 o th s se ho i0 j0 q0 i1 j1 q1 =
                                cy7 c k a0 a1 a2 a3 f0 f1 o th s se ho i0 j0 q0 i1 j1 q1 ∧
                              cy8 c k a0 a1 a2 a3 f0 f1 o th s se ho i0 j0 q0 i1 j1 q1 =
                                  cy8 c k a0 a1 a2 a3 f0 f1 o th s se ho i0 j0 q0 i1 j1 q1 ∧
                                s = s ∧ se = se ∧ ho = ho) ∧
        ((!cy9 c k a0 a1 a2 a3 f0 f1 o th s se ho i0 j0 q0 i1 j1 q1) = true →
          (!cy22 c k a0 a1 a2 a3 f0 f1 o th s se ho i0 j0 q0 i1 j1 q1) = true →
            (!cy25 c k a0 a1 a2 a3 f0 f1 o th s se ho i0 j0 q0 i1 j1 q1) = true →
              (!cy30 c k a0 a1 a2 a3 f0 f1 o th s se ho i0 j0 q0 i1 j1 q1) = true →
                (!cy31 c k a0 a1 a2 a3 f0 f1 o th s se ho i0 j0 q0 i1 j1 q1) = true →
                  eqBytes s { data := #[] } = false → isG s))
def cyV (c : Int) (k : Int) (a0 : Int) (a1 : Int) (a2 : Int) (a3 : Int) (f0 : Int) (f1 : Int) (o : Int) (th : Int) (s : ByteArray) (se : Int) (ho : Int) (i0 : Int) (j0 : Int) (q0 : Int) (i1 : Int) (j1 : Int) (q1 : Int) : Int := (bif
          bif cy36 c k a0 a1 a2 a3 f0 f1 o th s se ho i0 j0 q0 i1 j1 q1 == 0 then
            !bif !decide (cy37 c k a0 a1 a2 a3 f0 f1 o th s se ho i0 j0 q0 i1 j1 q1 ≥ 0) then
                bif !decide (cy38 c k a0 a1 a2 a3 f0 f1 o th s se ho i0 j0 q0 i1 j1 q1 ≥ 0) then
                  !decide (cy39 c k a0 a1 a2 a3 f0 f1 o th s se ho i0 j0 q0 i1 j1 q1 ≥ 0)
                else false
              else false
          else false then
        110
      else cy36 c k a0 a1 a2 a3 f0 f1 o th s se ho i0 j0 q0 i1 j1 q1)
def cz0 (c : Int) (k : Int) (a0 : Int) (a1 : Int) (a2 : Int) (a3 : Int) (f0 : Int) (f1 : Int) (o : Int) (th : Int) (s : ByteArray) (se : Int) (ho : Int) (i0 : Int) (j0 : Int) (q0 : Int) (i1 : Int) (j1 : Int) (q1 : Int) (i2 : Int) (j2 : Int) (q2 : Int) : Bool := bif o != 0 then !eqBytes s { data := #[77, 73, 82, 82, 79, 82] } else false
def cz1 (c : Int) (k : Int) (a0 : Int) (a1 : Int) (a2 : Int) (a3 : Int) (f0 : Int) (f1 : Int) (o : Int) (th : Int) (s : ByteArray) (se : Int) (ho : Int) (i0 : Int) (j0 : Int) (q0 : Int) (i1 : Int) (j1 : Int) (q1 : Int) (i2 : Int) (j2 : Int) (q2 : Int) : Int := bif cz0 c k a0 a1 a2 a3 f0 f1 o th s se ho i0 j0 q0 i1 j1 q1 i2 j2 q2 then a0 else a0
def cz2 (c : Int) (k : Int) (a0 : Int) (a1 : Int) (a2 : Int) (a3 : Int) (f0 : Int) (f1 : Int) (o : Int) (th : Int) (s : ByteArray) (se : Int) (ho : Int) (i0 : Int) (j0 : Int) (q0 : Int) (i1 : Int) (j1 : Int) (q1 : Int) (i2 : Int) (j2 : Int) (q2 : Int) : Int := bif cz0 c k a0 a1 a2 a3 f0 f1 o th s se ho i0 j0 q0 i1 j1 q1 i2 j2 q2 then a1 else a1
def cz3 (c : Int) (k : Int) (a0 : Int) (a1 : Int) (a2 : Int) (a3 : Int) (f0 : Int) (f1 : Int) (o : Int) (th : Int) (s : ByteArray) (se : Int) (ho : Int) (i0 : Int) (j0 : Int) (q0 : Int) (i1 : Int) (j1 : Int) (q1 : Int) (i2 : Int) (j2 : Int) (q2 : Int) : Int := bif cz0 c k a0 a1 a2 a3 f0 f1 o th s se ho i0 j0 q0 i1 j1 q1 i2 j2 q2 then a2 else a2
def cz4 (c : Int) (k : Int) (a0 : Int) (a1 : Int) (a2 : Int) (a3 : Int) (f0 : Int) (f1 : Int) (o : Int) (th : Int) (s : ByteArray) (se : Int) (ho : Int) (i0 : Int) (j0 : Int) (q0 : Int) (i1 : Int) (j1 : Int) (q1 : Int) (i2 : Int) (j2 : Int) (q2 : Int) : Int := bif cz0 c k a0 a1 a2 a3 f0 f1 o th s se ho i0 j0 q0 i1 j1 q1 i2 j2 q2 then a3 else a3
def cz5 (c : Int) (k : Int) (a0 : Int) (a1 : Int) (a2 : Int) (a3 : Int) (f0 : Int) (f1 : Int) (o : Int) (th : Int) (s : ByteArray) (se : Int) (ho : Int) (i0 : Int) (j0 : Int) (q0 : Int) (i1 : Int) (j1 : Int) (q1 : Int) (i2 : Int) (j2 : Int) (q2 : Int) : Int := bif cz0 c k a0 a1 a2 a3 f0 f1 o th s se ho i0 j0 q0 i1 j1 q1 i2 j2 q2 then f0 else 0
def cz6 (c : Int) (k : Int) (a0 : Int) (a1 : Int) (a2 : Int) (a3 : Int) (f0 : Int) (f1 : Int) (o : Int) (th : Int) (s : ByteArray) (se : Int) (ho : Int) (i0 : Int) (j0 : Int) (q0 : Int) (i1 : Int) (j1 : Int) (q1 : Int) (i2 : Int) (j2 : Int) (q2 : Int) : Int := bif cz0 c k a0 a1 a2 a3 f0 f1 o th s se ho i0 j0 q0 i1 j1 q1 i2 j2 q2 then f1 else 0
def cz7 (c : Int) (k : Int) (a0 : Int) (a1 : Int) (a2 : Int) (a3 : Int) (f0 : Int) (f1 : Int) (o : Int) (th : Int) (s : ByteArray) (se : Int) (ho : Int) (i0 : Int) (j0 : Int) (q0 : Int) (i1 : Int) (j1 : Int) (q1 : Int) (i2 : Int) (j2 : Int) (q2 : Int) : Int := bif cz0 c k a0 a1 a2 a3 f0 f1 o th s se ho i0 j0 q0 i1 j1 q1 i2 j2 q2 then o else 0
def cz8 (c : Int) (k : Int) (a0 : Int) (a1 : Int) (a2 : Int) (a3 : Int) (f0 : Int) (f1 : Int) (o : Int) (th : Int) (s : ByteArray) (se : Int) (ho : Int) (i0 : Int) (j0 : Int) (q0 : Int) (i1 : Int) (j1 : Int) (q1 : Int) (i2 : Int) (j2 : Int) (q2 : Int) : Int := bif cz0 c k a0 a1 a2 a3 f0 f1 o th s se ho i0 j0 q0 i1 j1 q1 i2 j2 q2 then th else th
def cz9 (c : Int) (k : Int) (a0 : Int) (a1 : Int) (a2 : Int) (a3 : Int) (f0 : Int) (f1 : Int) (o : Int) (th : Int) (s : ByteArray) (se : Int) (ho : Int) (i0 : Int) (j0 : Int) (q0 : Int) (i1 : Int) (j1 : Int) (q1 : Int) (i2 : Int) (j2 : Int) (q2 : Int) : Bool := !(i0 == i0 && (j0 == j0 && (q0 == q0 && true)))
def cz10 (c : Int) (k : Int) (a0 : Int) (a1 : Int) (a2 : Int) (a3 : Int) (f0 : Int) (f1 : Int) (o : Int) (th : Int) (s : ByteArray) (se : Int) (ho : Int) (i0 : Int) (j0 : Int) (q0 : Int) (i1 : Int) (j1 : Int) (q1 : Int) (i2 : Int) (j2 : Int) (q2 : Int) : Bool := !(i1 == i1 && (j1 == j1 && (q1 == q1 && true)))
def cz11 (c : Int) (k : Int) (a0 : Int) (a1 : Int) (a2 : Int) (a3 : Int) (f0 : Int) (f1 : Int) (o : Int) (th : Int) (s : ByteArray) (se : Int) (ho : Int) (i0 : Int) (j0 : Int) (q0 : Int) (i1 : Int) (j1 : Int) (q1 : Int) (i2 : Int) (j2 : Int) (q2 : Int) : Bool := !bif
      (1 : Int) == 1 &&
        (c == c &&
          (k == k &&
            ((0 : Int) == 0 &&
              ((0 : Int) == 0 &&
                (o == cz7 c k a0 a1 a2 a3 f0 f1 o th s se ho i0 j0 q0 i1 j1 q1 i2 j2 q2 &&
                  (th == cz8 c k a0 a1 a2 a3 f0 f1 o th s se ho i0 j0 q0 i1 j1 q1 i2 j2 q2 &&
                    (se == se &&
                      (ho == ho &&
                        ((0 : Int) == 0 &&
                          ((0 : Int) == 0 &&
                            ((0 : Int) == 0 &&
                              ((0 : Int) == 0 &&
                                ((0 : Int) == 0 &&
                                  ((0 : Int) == 0 &&
                                    ((0 : Int) == 0 &&
                                      (a0 ==
                                          cz1 c k a0 a1 a2 a3 f0 f1 o th s se ho i0 j0 q0 i1 j1 q1 i2
                                            j2 q2 &&
                                        (a1 ==
                                            cz2 c k a0 a1 a2 a3 f0 f1 o th s se ho i0 j0 q0 i1 j1 q1
                                              i2 j2 q2 &&
                                          (a2 ==
                                              cz3 c k a0 a1 a2 a3 f0 f1 o th s se ho i0 j0 q0 i1 j1 q1
                                                i2 j2 q2 &&
                                            (a3 ==
                                                cz4 c k a0 a1 a2 a3 f0 f1 o th s se ho i0 j0 q0 i1 j1
                                                  q1 i2 j2 q2 &&
                                              (f0 ==
                                                  cz5 c k a0 a1 a2 a3 f0 f1 o th s se ho i0 j0 q0 i1 j1
                                                    q1 i2 j2 q2 &&
                                                (f1 ==
                                                    cz6 c k a0 a1 a2 a3 f0 f1 o th s se ho i0 j0 q0 i1
                                                      j1 q1 i2 j2 q2 &&
                                                  (eqBytes s s && true)))))))))))))))))))))) then
    bif
        cz9 c k a0 a1 a2 a3 f0 f1 o th s se ho i0 j0 q0 i1 j1 q1 i2 j2 q2 ||
          !cz9 c k a0 a1 a2 a3 f0 f1 o th s se ho i0 j0 q0 i1 j1 q1 i2 j2 q2 &&
            (cz10 c k a0 a1 a2 a3 f0 f1 o th s se ho i0 j0 q0 i1 j1 q1 i2 j2 q2 ||
              !cz10 c k a0 a1 a2 a3 f0 f1 o th s se ho i0 j0 q0 i1 j1 q1 i2 j2 q2 &&
                !(i2 == i2 && (j2 == j2 && (q2 == q2 && true)))) then
      false
    else true
  else false
def cz13 (c : Int) (k : Int) (a0 : Int) (a1 : Int) (a2 : Int) (a3 : Int) (f0 : Int) (f1 : Int) (o : Int) (th : Int) (s : ByteArray) (se : Int) (ho : Int) (i0 : Int) (j0 : Int) (q0 : Int) (i1 : Int) (j1 : Int) (q1 : Int) (i2 : Int) (j2 : Int) (q2 : Int) : Bool := bif decide (c < (-1000000000 : Int)) then true
else decide (c > 1000000000)
def cz16 (c : Int) (k : Int) (a0 : Int) (a1 : Int) (a2 : Int) (a3 : Int) (f0 : Int) (f1 : Int) (o : Int) (th : Int) (s : ByteArray) (se : Int) (ho : Int) (i0 : Int) (j0 : Int) (q0 : Int) (i1 : Int) (j1 : Int) (q1 : Int) (i2 : Int) (j2 : Int) (q2 : Int) : Int := bif
    !cz13 c k a0 a1 a2 a3 f0 f1 o th s se ho i0 j0 q0 i1 j1 q1 i2 j2 q2 &&
      !bif decide (th < (-1000000000 : Int)) then
          true
        else decide (th > 1000000000) then
  (-1 : Int)
else
  bif cz13 c k a0 a1 a2 a3 f0 f1 o th s se ho i0 j0 q0 i1 j1 q1 i2 j2 q2 then 0
  else (2 : Int)
def cz17 (c : Int) (k : Int) (a0 : Int) (a1 : Int) (a2 : Int) (a3 : Int) (f0 : Int) (f1 : Int) (o : Int) (th : Int) (s : ByteArray) (se : Int) (ho : Int) (i0 : Int) (j0 : Int) (q0 : Int) (i1 : Int) (j1 : Int) (q1 : Int) (i2 : Int) (j2 : Int) (q2 : Int) : Bool := bif decide (a0 < (-1000000000 : Int)) then true
else decide (a0 > 1000000000)
def cz18 (c : Int) (k : Int) (a0 : Int) (a1 : Int) (a2 : Int) (a3 : Int) (f0 : Int) (f1 : Int) (o : Int) (th : Int) (s : ByteArray) (se : Int) (ho : Int) (i0 : Int) (j0 : Int) (q0 : Int) (i1 : Int) (j1 : Int) (q1 : Int) (i2 : Int) (j2 : Int) (q2 : Int) : Bool := bif decide (a1 < (-1000000000 : Int)) then true
else decide (a1 > 1000000000)
def cz19 (c : Int) (k : Int) (a0 : Int) (a1 : Int) (a2 : Int) (a3 : Int) (f0 : Int) (f1 : Int) (o : Int) (th : Int) (s : ByteArray) (se : Int) (ho : Int) (i0 : Int) (j0 : Int) (q0 : Int) (i1 : Int) (j1 : Int) (q1 : Int) (i2 : Int) (j2 : Int) (q2 : Int) : Bool := bif decide (a2 < (-1000000000 : Int)) then true
else decide (a2 > 1000000000)
def cz21 (c : Int) (k : Int) (a0 : Int) (a1 : Int) (a2 : Int) (a3 : Int) (f0 : Int) (f1 : Int) (o : Int) (th : Int) (s : ByteArray) (se : Int) (ho : Int) (i0 : Int) (j0 : Int) (q0 : Int) (i1 : Int) (j1 : Int) (q1 : Int) (i2 : Int) (j2 : Int) (q2 : Int) : Int := bif
    !cz17 c k a0 a1 a2 a3 f0 f1 o th s se ho i0 j0 q0 i1 j1 q1 i2 j2 q2 &&
      (!cz18 c k a0 a1 a2 a3 f0 f1 o th s se ho i0 j0 q0 i1 j1 q1 i2 j2 q2 &&
        (!cz19 c k a0 a1 a2 a3 f0 f1 o th s se ho i0 j0 q0 i1 j1 q1 i2 j2 q2 &&
          !bif
                decide
                  (a3 < (-1000000000 : Int)) then
              true
            else decide (a3 > 1000000000))) then
  (-1 : Int)
else
  bif cz17 c k a0 a1 a2 a3 f0 f1 o th s se ho i0 j0 q0 i1 j1 q1 i2 j2 q2 then 0
  else
    bif cz18 c k a0 a1 a2 a3 f0 f1 o th s se ho i0 j0 q0 i1 j1 q1 i2 j2 q2 then
      (1 : Int)
    else
      bif cz19 c k a0 a1 a2 a3 f0 f1 o th s se ho i0 j0 q0 i1 j1 q1 i2 j2 q2 then
        (2 : Int)
      else (3 : Int)
def cz22 (c : Int) (k : Int) (a0 : Int) (a1 : Int) (a2 : Int) (a3 : Int) (f0 : Int) (f1 : Int) (o : Int) (th : Int) (s : ByteArray) (se : Int) (ho : Int) (i0 : Int) (j0 : Int) (q0 : Int) (i1 : Int) (j1 : Int) (q1 : Int) (i2 : Int) (j2 : Int) (q2 : Int) : Bool := bif decide (f0 < (-1000000000 : Int)) then true
else decide (f0 > 1000000000)
def cz23 (c : Int) (k : Int) (a0 : Int) (a1 : Int) (a2 : Int) (a3 : Int) (f0 : Int) (f1 : Int) (o : Int) (th : Int) (s : ByteArray) (se : Int) (ho : Int) (i0 : Int) (j0 : Int) (q0 : Int) (i1 : Int) (j1 : Int) (q1 : Int) (i2 : Int) (j2 : Int) (q2 : Int) : Int := bif
    !cz22 c k a0 a1 a2 a3 f0 f1 o th s se ho i0 j0 q0 i1 j1 q1 i2 j2 q2 &&
      !bif decide (f1 < (-1000000000 : Int)) then
          true
        else decide (f1 > 1000000000) then
  (-1 : Int)
else
  bif cz22 c k a0 a1 a2 a3 f0 f1 o th s se ho i0 j0 q0 i1 j1 q1 i2 j2 q2 then 0
  else (1 : Int)
def cz24 (c : Int) (k : Int) (a0 : Int) (a1 : Int) (a2 : Int) (a3 : Int) (f0 : Int) (f1 : Int) (o : Int) (th : Int) (s : ByteArray) (se : Int) (ho : Int) (i0 : Int) (j0 : Int) (q0 : Int) (i1 : Int) (j1 : Int) (q1 : Int) (i2 : Int) (j2 : Int) (q2 : Int) : Bool := !bif !decide (cz16 c k a0 a1 a2 a3 f0 f1 o th s se ho i0 j0 q0 i1 j1 q1 i2 j2 q2 ≥ 0) then
    bif !decide (cz21 c k a0 a1 a2 a3 f0 f1 o th s se ho i0 j0 q0 i1 j1 q1 i2 j2 q2 ≥ 0) then
      !decide (cz23 c k a0 a1 a2 a3 f0 f1 o th s se ho i0 j0 q0 i1 j1 q1 i2 j2 q2 ≥ 0)
    else false
  else false
def cz26 (c : Int) (k : Int) (a0 : Int) (a1 : Int) (a2 : Int) (a3 : Int) (f0 : Int) (f1 : Int) (o : Int) (th : Int) (s : ByteArray) (se : Int) (ho : Int) (i0 : Int) (j0 : Int) (q0 : Int) (i1 : Int) (j1 : Int) (q1 : Int) (i2 : Int) (j2 : Int) (q2 : Int) : Int := bif
    bif decide (k < (-100000000 : Int)) then true
    else decide (k > 100000000) then
  0
else (-1 : Int)
def cz27 (c : Int) (k : Int) (a0 : Int) (a1 : Int) (a2 : Int) (a3 : Int) (f0 : Int) (f1 : Int) (o : Int) (th : Int) (s : ByteArray) (se : Int) (ho : Int) (i0 : Int) (j0 : Int) (q0 : Int) (i1 : Int) (j1 : Int) (q1 : Int) (i2 : Int) (j2 : Int) (q2 : Int) : Bool := !bif !decide (cz26 c k a0 a1 a2 a3 f0 f1 o th s se ho i0 j0 q0 i1 j1 q1 i2 j2 q2 ≥ 0) then true
  else false
def cz29 (c : Int) (k : Int) (a0 : Int) (a1 : Int) (a2 : Int) (a3 : Int) (f0 : Int) (f1 : Int) (o : Int) (th : Int) (s : ByteArray) (se : Int) (ho : Int) (i0 : Int) (j0 : Int) (q0 : Int) (i1 : Int) (j1 : Int) (q1 : Int) (i2 : Int) (j2 : Int) (q2 : Int) : Int := bif
    bif decide (o < (-3 : Int)) then true
    else decide (o > 3) then
  0
else (-1 : Int)
def cz30 (c : Int) (k : Int) (a0 : Int) (a1 : Int) (a2 : Int) (a3 : Int) (f0 : Int) (f1 : Int) (o : Int) (th : Int) (s : ByteArray) (se : Int) (ho : Int) (i0 : Int) (j0 : Int) (q0 : Int) (i1 : Int) (j1 : Int) (q1 : Int) (i2 : Int) (j2 : Int) (q2 : Int) : Bool := bif decide (se < 0) then true else decide (se > 1000000000)
def cz31 (c : Int) (k : Int) (a0 : Int) (a1 : Int) (a2 : Int) (a3 : Int) (f0 : Int) (f1 : Int) (o : Int) (th : Int) (s : ByteArray) (se : Int) (ho : Int) (i0 : Int) (j0 : Int) (q0 : Int) (i1 : Int) (j1 : Int) (q1 : Int) (i2 : Int) (j2 : Int) (q2 : Int) : Int := bif
    !cz30 c k a0 a1 a2 a3 f0 f1 o th s se ho i0 j0 q0 i1 j1 q1 i2 j2 q2 &&
      !bif decide (ho < 0) then true else decide (ho > 1000000000) then
  (-1 : Int)
else
  bif cz30 c k a0 a1 a2 a3 f0 f1 o th s se ho i0 j0 q0 i1 j1 q1 i2 j2 q2 then 0
  else (1 : Int)
def cz32 (c : Int) (k : Int) (a0 : Int) (a1 : Int) (a2 : Int) (a3 : Int) (f0 : Int) (f1 : Int) (o : Int) (th : Int) (s : ByteArray) (se : Int) (ho : Int) (i0 : Int) (j0 : Int) (q0 : Int) (i1 : Int) (j1 : Int) (q1 : Int) (i2 : Int) (j2 : Int) (q2 : Int) : Bool := !bif !decide (cz29 c k a0 a1 a2 a3 f0 f1 o th s se ho i0 j0 q0 i1 j1 q1 i2 j2 q2 ≥ 0) then
    !decide (cz31 c k a0 a1 a2 a3 f0 f1 o th s se ho i0 j0 q0 i1 j1 q1 i2 j2 q2 ≥ 0)
  else false
def cz33 (c : Int) (k : Int) (a0 : Int) (a1 : Int) (a2 : Int) (a3 : Int) (f0 : Int) (f1 : Int) (o : Int) (th : Int) (s : ByteArray) (se : Int) (ho : Int) (i0 : Int) (j0 : Int) (q0 : Int) (i1 : Int) (j1 : Int) (q1 : Int) (i2 : Int) (j2 : Int) (q2 : Int) : Bool := !bif se == 0 then true else decide (ho < se)
def cz34 (c : Int) (k : Int) (a0 : Int) (a1 : Int) (a2 : Int) (a3 : Int) (f0 : Int) (f1 : Int) (o : Int) (th : Int) (s : ByteArray) (se : Int) (ho : Int) (i0 : Int) (j0 : Int) (q0 : Int) (i1 : Int) (j1 : Int) (q1 : Int) (i2 : Int) (j2 : Int) (q2 : Int) : Int := bif cz11 c k a0 a1 a2 a3 f0 f1 o th s se ho i0 j0 q0 i1 j1 q1 i2 j2 q2 then 110
else
  bif cz24 c k a0 a1 a2 a3 f0 f1 o th s se ho i0 j0 q0 i1 j1 q1 i2 j2 q2 then 110
  else
    bif cz27 c k a0 a1 a2 a3 f0 f1 o th s se ho i0 j0 q0 i1 j1 q1 i2 j2 q2 then 110
    else
      bif cz32 c k a0 a1 a2 a3 f0 f1 o th s se ho i0 j0 q0 i1 j1 q1 i2 j2 q2 then 110
      else bif cz33 c k a0 a1 a2 a3 f0 f1 o th s se ho i0 j0 q0 i1 j1 q1 i2 j2 q2 then 110 else 0
def cz35 (c : Int) (k : Int) (a0 : Int) (a1 : Int) (a2 : Int) (a3 : Int) (f0 : Int) (f1 : Int) (o : Int) (th : Int) (s : ByteArray) (se : Int) (ho : Int) (i0 : Int) (j0 : Int) (q0 : Int) (i1 : Int) (j1 : Int) (q1 : Int) (i2 : Int) (j2 : Int) (q2 : Int) : Int := bif bif decide (i0 < 10000000) then true else decide (i0 > 40000000) then 0
else (-1 : Int)
def cz36 (c : Int) (k : Int) (a0 : Int) (a1 : Int) (a2 : Int) (a3 : Int) (f0 : Int) (f1 : Int) (o : Int) (th : Int) (s : ByteArray) (se : Int) (ho : Int) (i0 : Int) (j0 : Int) (q0 : Int) (i1 : Int) (j1 : Int) (q1 : Int) (i2 : Int) (j2 : Int) (q2 : Int) : Int := bif bif decide (j0 < 0) then true else decide (j0 > 1000) then 0
else (-1 : Int)
def cz37 (c : Int) (k : Int) (a0 : Int) (a1 : Int) (a2 : Int) (a3 : Int) (f0 : Int) (f1 : Int) (o : Int) (th : Int) (s : ByteArray) (se : Int) (ho : Int) (i0 : Int) (j0 : Int) (q0 : Int) (i1 : Int) (j1 : Int) (q1 : Int) (i2 : Int) (j2 : Int) (q2 : Int) : Int := bif bif decide (q0 < 1) then true else decide (q0 > 1000) then 0
else (-1 : Int)
def cz38 (c : Int) (k : Int) (a0 : Int) (a1 : Int) (a2 : Int) (a3 : Int) (f0 : Int) (f1 : Int) (o : Int) (th : Int) (s : ByteArray) (se : Int) (ho : Int) (i0 : Int) (j0 : Int) (q0 : Int) (i1 : Int) (j1 : Int) (q1 : Int) (i2 : Int) (j2 : Int) (q2 : Int) : Int := bif
    bif cz34 c k a0 a1 a2 a3 f0 f1 o th s se ho i0 j0 q0 i1 j1 q1 i2 j2 q2 == 0 then
      !bif !decide (cz35 c k a0 a1 a2 a3 f0 f1 o th s se ho i0 j0 q0 i1 j1 q1 i2 j2 q2 ≥ 0) then
          bif !decide (cz36 c k a0 a1 a2 a3 f0 f1 o th s se ho i0 j0 q0 i1 j1 q1 i2 j2 q2 ≥ 0) then
            !decide (cz37 c k a0 a1 a2 a3 f0 f1 o th s se ho i0 j0 q0 i1 j1 q1 i2 j2 q2 ≥ 0)
          else false
        else false
    else false then
  110
else cz34 c k a0 a1 a2 a3 f0 f1 o th s se ho i0 j0 q0 i1 j1 q1 i2 j2 q2
def cz39 (c : Int) (k : Int) (a0 : Int) (a1 : Int) (a2 : Int) (a3 : Int) (f0 : Int) (f1 : Int) (o : Int) (th : Int) (s : ByteArray) (se : Int) (ho : Int) (i0 : Int) (j0 : Int) (q0 : Int) (i1 : Int) (j1 : Int) (q1 : Int) (i2 : Int) (j2 : Int) (q2 : Int) : Int := bif bif decide (i1 < 10000000) then true else decide (i1 > 40000000) then 0
else (-1 : Int)
def cz40 (c : Int) (k : Int) (a0 : Int) (a1 : Int) (a2 : Int) (a3 : Int) (f0 : Int) (f1 : Int) (o : Int) (th : Int) (s : ByteArray) (se : Int) (ho : Int) (i0 : Int) (j0 : Int) (q0 : Int) (i1 : Int) (j1 : Int) (q1 : Int) (i2 : Int) (j2 : Int) (q2 : Int) : Int := bif bif decide (j1 < 0) then true else decide (j1 > 1000) then 0
else (-1 : Int)
def cz41 (c : Int) (k : Int) (a0 : Int) (a1 : Int) (a2 : Int) (a3 : Int) (f0 : Int) (f1 : Int) (o : Int) (th : Int) (s : ByteArray) (se : Int) (ho : Int) (i0 : Int) (j0 : Int) (q0 : Int) (i1 : Int) (j1 : Int) (q1 : Int) (i2 : Int) (j2 : Int) (q2 : Int) : Int := bif bif decide (q1 < 1) then true else decide (q1 > 1000) then 0
else (-1 : Int)
def cz42 (c : Int) (k : Int) (a0 : Int) (a1 : Int) (a2 : Int) (a3 : Int) (f0 : Int) (f1 : Int) (o : Int) (th : Int) (s : ByteArray) (se : Int) (ho : Int) (i0 : Int) (j0 : Int) (q0 : Int) (i1 : Int) (j1 : Int) (q1 : Int) (i2 : Int) (j2 : Int) (q2 : Int) : Int := bif
    bif cz38 c k a0 a1 a2 a3 f0 f1 o th s se ho i0 j0 q0 i1 j1 q1 i2 j2 q2 == 0 then
      !bif !decide (cz39 c k a0 a1 a2 a3 f0 f1 o th s se ho i0 j0 q0 i1 j1 q1 i2 j2 q2 ≥ 0) then
          bif !decide (cz40 c k a0 a1 a2 a3 f0 f1 o th s se ho i0 j0 q0 i1 j1 q1 i2 j2 q2 ≥ 0) then
            !decide (cz41 c k a0 a1 a2 a3 f0 f1 o th s se ho i0 j0 q0 i1 j1 q1 i2 j2 q2 ≥ 0)
          else false
        else false
    else false then
  110
else cz38 c k a0 a1 a2 a3 f0 f1 o th s se ho i0 j0 q0 i1 j1 q1 i2 j2 q2
def cz43 (c : Int) (k : Int) (a0 : Int) (a1 : Int) (a2 : Int) (a3 : Int) (f0 : Int) (f1 : Int) (o : Int) (th : Int) (s : ByteArray) (se : Int) (ho : Int) (i0 : Int) (j0 : Int) (q0 : Int) (i1 : Int) (j1 : Int) (q1 : Int) (i2 : Int) (j2 : Int) (q2 : Int) : Int := bif bif decide (i2 < 10000000) then true else decide (i2 > 40000000) then 0
else (-1 : Int)
def cz44 (c : Int) (k : Int) (a0 : Int) (a1 : Int) (a2 : Int) (a3 : Int) (f0 : Int) (f1 : Int) (o : Int) (th : Int) (s : ByteArray) (se : Int) (ho : Int) (i0 : Int) (j0 : Int) (q0 : Int) (i1 : Int) (j1 : Int) (q1 : Int) (i2 : Int) (j2 : Int) (q2 : Int) : Int := bif bif decide (j2 < 0) then true else decide (j2 > 1000) then 0
else (-1 : Int)
def cz45 (c : Int) (k : Int) (a0 : Int) (a1 : Int) (a2 : Int) (a3 : Int) (f0 : Int) (f1 : Int) (o : Int) (th : Int) (s : ByteArray) (se : Int) (ho : Int) (i0 : Int) (j0 : Int) (q0 : Int) (i1 : Int) (j1 : Int) (q1 : Int) (i2 : Int) (j2 : Int) (q2 : Int) : Int := bif bif decide (q2 < 1) then true else decide (q2 > 1000) then 0
else (-1 : Int)
def czN (c : Int) (k : Int) (a0 : Int) (a1 : Int) (a2 : Int) (a3 : Int) (f0 : Int) (f1 : Int) (o : Int) (th : Int) (s : ByteArray) (se : Int) (ho : Int) (i0 : Int) (j0 : Int) (q0 : Int) (i1 : Int) (j1 : Int) (q1 : Int) (i2 : Int) (j2 : Int) (q2 : Int) : Prop := ((((cz0 c k a0 a1 a2 a3 f0 f1 o th s se ho i0 j0 q0 i1 j1 q1 i2 j2 q2 = true →
              f0 = f0 ∧ f1 = f1) ∧
            (ho = ho ∧ se = se ∧ s = s ∧ k = k) ∧
              (ho = ho ∧ se = se ∧ s = s) ∧ (ho = ho ∧ se = se) ∧ ho = ho) ∧
          (c = c ∧
              k = k ∧
                a0 = a0 ∧
                  a1 = a1 ∧
                    a2 = a2 ∧
                      a3 = a3 ∧ f0 = f0 ∧ f1 = f1 ∧ o = o ∧ th = th ∧ s = s ∧ se = se ∧ ho = ho) ∧
            c = c ∧
              k = k ∧
                cz1 c k a0 a1 a2 a3 f0 f1 o th s se ho i0 j0 q0 i1 j1 q1 i2 j2 q2 =
                    cz1 c k a0 a1 a2 a3 f0 f1 o th s se ho i0 j0 q0 i1 j1 q1 i2 j2 q2 ∧
                  cz2 c k a0 a1 a2 a3 f0 f1 o th s se ho i0 j0 q0 i1 j1 q1 i2 j2 q2 =
                      cz2 c k a0 a1 a2 a3 f0 f1 o th s se ho i0 j0 q0 i1 j1 q1 i2 j2 q2 ∧
                    cz3 c k a0 a1 a2 a3 f0 f1 o th s se ho i0 j0 q0 i1 j1 q1 i2 j2 q2 =
                        cz3 c k a0 a1 a2 a3 f0 f1 o th s se ho i0 j0 q0 i1 j1 q1 i2 j2 q2 ∧
                      cz4 c k a0 a1 a2 a3 f0 f1 o th s se ho i0 j0 q0 i1 j1 q1 i2 j2 q2 =
                          cz4 c k a0 a1 a2 a3 f0 f1 o th s se ho i0 j0 q0 i1 j1 q1 i2 j2 q2 ∧
                        cz5 c k a0 a1 a2 a3 f0 f1 o th s se ho i0 j0 q0 i1 j1 q1 i2 j2 q2 =
                            cz5 c k a0 a1 a2 a3 f0 f1 o th s se ho i0 j0 q0 i1 j1 q1 i2 j2 q2 ∧
                          cz6 c k a0 a1 a2 a3 f0 f1 o th s se ho i0 j0 q0 i1 j1 q1 i2 j2 q2 =
                              cz6 c k a0 a1 a2 a3 f0 f1 o th s se ho i0 j0 q0 i1 j1 q1 i2 j2 q2 ∧
                            cz7 c k a0 a1 a2 a3 f0 f1 o th s se ho i0 j0 q0 i1 j1 q1 i2 j2 q2 =
                                cz7 c k a0 a1 a2 a3 f0 f1 o th s se ho i0 j0 q0 i1 j1 q1 i2 j2 q2 ∧
                              cz8 c k a0 a1 a2 a3 f0 f1 o th s se ho i0 j0 q0 i1 j1 q1 i2 j2 q2 =
                                  cz8 c k a0 a1 a2 a3 f0 f1 o th s se ho i0 j0 q0 i1 j1 q1 i2 j2
                                    q2 ∧
                                s = s ∧ se = se ∧ ho = ho) ∧
        ((!cz11 c k a0 a1 a2 a3 f0 f1 o th s se ho i0 j0 q0 i1 j1 q1 i2 j2 q2) = true →
          (!cz24 c k a0 a1 a2 a3 f0 f1 o th s se ho i0 j0 q0 i1 j1 q1 i2 j2 q2) = true →
            (!cz27 c k a0 a1 a2 a3 f0 f1 o th s se ho i0 j0 q0 i1 j1 q1 i2 j2 q2) = true →
              (!cz32 c k a0 a1 a2 a3 f0 f1 o th s se ho i0 j0 q0 i1 j1 q1 i2 j2 q2) = true →
                (!cz33 c k a0 a1 a2 a3 f0 f1 o th s se ho i0 j0 q0 i1 j1 q1 i2 j2 q2) = true →
                  eqBytes s { data := #[] } = false → isG s))
def czV (c : Int) (k : Int) (a0 : Int) (a1 : Int) (a2 : Int) (a3 : Int) (f0 : Int) (f1 : Int) (o : Int) (th : Int) (s : ByteArray) (se : Int) (ho : Int) (i0 : Int) (j0 : Int) (q0 : Int) (i1 : Int) (j1 : Int) (q1 : Int) (i2 : Int) (j2 : Int) (q2 : Int) : Int := (bif
          bif cz42 c k a0 a1 a2 a3 f0 f1 o th s se ho i0 j0 q0 i1 j1 q1 i2 j2 q2 == 0 then
            !bif
                  !decide
                      (cz43 c k a0 a1 a2 a3 f0 f1 o th s se ho i0 j0 q0 i1 j1 q1 i2 j2 q2 ≥ 0) then
                bif
                    !decide
                        (cz44 c k a0 a1 a2 a3 f0 f1 o th s se ho i0 j0 q0 i1 j1 q1 i2 j2 q2 ≥
                          0) then
                  !decide (cz45 c k a0 a1 a2 a3 f0 f1 o th s se ho i0 j0 q0 i1 j1 q1 i2 j2 q2 ≥ 0)
                else false
              else false
          else false then
        110
      else cz42 c k a0 a1 a2 a3 f0 f1 o th s se ho i0 j0 q0 i1 j1 q1 i2 j2 q2)
end Go.Rd

/- Valid standard surfaces with films have no fault. No program. -/
namespace Go.Rd
open Go Go.Eng Go.Ar
/-- A film. -/
def inF (i p q : Int) : Prop := (10000000 ≤ i ∧ i ≤ 40000000) ∧ (0 ≤ p ∧ p ≤ 1000) ∧ (1 ≤ q ∧ q ≤ 1000)
theorem std1_0 {c k a0 a1 a2 a3 f0 f1 o th : Int} {s : ByteArray} {se ho i0 j0 q0 : Int} (h : vStd c k a0 a1 a2 a3 f0 f1 o th s se ho) (t0 : inF i0 j0 q0) : cxV c k a0 a1 a2 a3 f0 f1 o th s se ho i0 j0 q0 = 0 := by
  have e1 := lo_f h.hc; have e2 := hi_f h.hc; have e3 := klo_f h.hk; have e4 := khi_f h.hk
  have e5 := lo_f h.h0; have e6 := hi_f h.h0; have e7 := lo_f h.h1; have e8 := hi_f h.h1; have e9 := lo_f h.h2; have e10 := hi_f h.h2; have e11 := lo_f h.h3; have e12 := hi_f h.h3
  have e13 := lo_f h.hf; have e14 := hi_f h.hf; have e15 := lo_f h.hg; have e16 := hi_f h.hg; have e17 := lo_f h.ht; have e18 := hi_f h.ht
  have e19 : decide (o < (-3 : Int)) = false := decide_eq_false (by have := h.ho'; omega)
  have e20 : decide (o > 3) = false := decide_eq_false (by have := h.ho'; omega)
  have hsh := h.sh
  have e21 : decide (se < 0) = false := decide_eq_false (by unfold inSH at hsh; omega)
  have e22 : decide (se > 1000000000) = false := decide_eq_false (by unfold inSH at hsh; omega)
  have e23 : decide (ho < 0) = false := decide_eq_false (by unfold inSH at hsh; omega)
  have e24 : decide (ho > 1000000000) = false := decide_eq_false (by unfold inSH at hsh; omega)
  have e25 := sh_f hsh
  have e26 := eqB_self s
  have keep : (bif o != 0 then !eqBytes s ⟨#[77, 73, 82, 82, 79, 82]⟩ else false) = (o != 0) := by
    rcases h.ph with ⟨_, _, rfl⟩ | ⟨h1, h2⟩
    · rfl
    · rw [show eqBytes s ⟨#[77, 73, 82, 82, 79, 82]⟩ = false from eqB_ne h2]; cases o != 0 <;> rfl
  have q5 : (bif o != 0 then f0 else 0) = f0 := by
    rcases h.ph with ⟨rfl, _, rfl⟩ | ⟨h1, h2⟩
    · rfl
    · rw [show (o != 0) = true by simpa using h1]; rfl
  have q6 : (bif o != 0 then f1 else 0) = f1 := by
    rcases h.ph with ⟨_, rfl, rfl⟩ | ⟨h1, h2⟩
    · rfl
    · rw [show (o != 0) = true by simpa using h1]; rfl
  have q7 : (bif o != 0 then o else 0) = o := by
    cases h1 : o != 0 with
    | true => rfl
    | false => have : o = 0 := by simpa using h1
               subst this; rfl
  have qq : ∀ x : Int, (bif o != 0 then x else x) = x := fun x => by cases o != 0 <;> rfl
  have u0a : decide (i0 < 10000000) = false := decide_eq_false (by have := t0.1; omega)
  have u0b : decide (i0 > 40000000) = false := decide_eq_false (by have := t0.1; omega)
  have v0a : decide (j0 < 0) = false := decide_eq_false (by have := t0.2.1; omega)
  have v0b : decide (j0 > 1000) = false := decide_eq_false (by have := t0.2.1; omega)
  have w0a : decide (q0 < 1) = false := decide_eq_false (by have := t0.2.2; omega)
  have w0b : decide (q0 > 1000) = false := decide_eq_false (by have := t0.2.2; omega)
  simp only [cx0, cx1, cx2, cx3, cx4, cx5, cx6, cx7, cx8, cx9, cx11, cx14, cx15, cx16, cx17, cx19, cx20, cx21, cx22, cx24, cx25, cx27, cx28, cx29, cx30, cx31, cx32, cx33, cx34, cx35, cxV, keep, q5, q6, q7, qq, e1, e2, e3, e4, e5, e6, e7, e8, e9, e10, e11, e12, e13, e14, e15, e16, e17, e18, e19, e20, e21, e22, e23, e24, e25, e26, u0a, u0b, v0a, v0b, w0a, w0b, beq_self_eq_true, Bool.and_true, Bool.and_self, cond_true, cond_false, Bool.not_true, Bool.not_false]
  rfl
theorem std1_n {c k a0 a1 a2 a3 f0 f1 o th : Int} {s : ByteArray} {se ho i0 j0 q0 : Int} (h : inG s) : cxN c k a0 a1 a2 a3 f0 f1 o th s se ho i0 j0 q0 := by
  unfold cxN
  repeat' first | with_reducible exact rfl | refine And.intro ?_ ?_ | intro _
  exact isG_of h (by assumption)
theorem std2_0 {c k a0 a1 a2 a3 f0 f1 o th : Int} {s : ByteArray} {se ho i0 j0 q0 i1 j1 q1 : Int} (h : vStd c k a0 a1 a2 a3 f0 f1 o th s se ho) (t0 : inF i0 j0 q0) (t1 : inF i1 j1 q1) : cyV c k a0 a1 a2 a3 f0 f1 o th s se ho i0 j0 q0 i1 j1 q1 = 0 := by
  have e1 := lo_f h.hc; have e2 := hi_f h.hc; have e3 := klo_f h.hk; have e4 := khi_f h.hk
  have e5 := lo_f h.h0; have e6 := hi_f h.h0; have e7 := lo_f h.h1; have e8 := hi_f h.h1; have e9 := lo_f h.h2; have e10 := hi_f h.h2; have e11 := lo_f h.h3; have e12 := hi_f h.h3
  have e13 := lo_f h.hf; have e14 := hi_f h.hf; have e15 := lo_f h.hg; have e16 := hi_f h.hg; have e17 := lo_f h.ht; have e18 := hi_f h.ht
  have e19 : decide (o < (-3 : Int)) = false := decide_eq_false (by have := h.ho'; omega)
  have e20 : decide (o > 3) = false := decide_eq_false (by have := h.ho'; omega)
  have hsh := h.sh
  have e21 : decide (se < 0) = false := decide_eq_false (by unfold inSH at hsh; omega)
  have e22 : decide (se > 1000000000) = false := decide_eq_false (by unfold inSH at hsh; omega)
  have e23 : decide (ho < 0) = false := decide_eq_false (by unfold inSH at hsh; omega)
  have e24 : decide (ho > 1000000000) = false := decide_eq_false (by unfold inSH at hsh; omega)
  have e25 := sh_f hsh
  have e26 := eqB_self s
  have keep : (bif o != 0 then !eqBytes s ⟨#[77, 73, 82, 82, 79, 82]⟩ else false) = (o != 0) := by
    rcases h.ph with ⟨_, _, rfl⟩ | ⟨h1, h2⟩
    · rfl
    · rw [show eqBytes s ⟨#[77, 73, 82, 82, 79, 82]⟩ = false from eqB_ne h2]; cases o != 0 <;> rfl
  have q5 : (bif o != 0 then f0 else 0) = f0 := by
    rcases h.ph with ⟨rfl, _, rfl⟩ | ⟨h1, h2⟩
    · rfl
    · rw [show (o != 0) = true by simpa using h1]; rfl
  have q6 : (bif o != 0 then f1 else 0) = f1 := by
    rcases h.ph with ⟨_, rfl, rfl⟩ | ⟨h1, h2⟩
    · rfl
    · rw [show (o != 0) = true by simpa using h1]; rfl
  have q7 : (bif o != 0 then o else 0) = o := by
    cases h1 : o != 0 with
    | true => rfl
    | false => have : o = 0 := by simpa using h1
               subst this; rfl
  have qq : ∀ x : Int, (bif o != 0 then x else x) = x := fun x => by cases o != 0 <;> rfl
  have u0a : decide (i0 < 10000000) = false := decide_eq_false (by have := t0.1; omega)
  have u0b : decide (i0 > 40000000) = false := decide_eq_false (by have := t0.1; omega)
  have v0a : decide (j0 < 0) = false := decide_eq_false (by have := t0.2.1; omega)
  have v0b : decide (j0 > 1000) = false := decide_eq_false (by have := t0.2.1; omega)
  have w0a : decide (q0 < 1) = false := decide_eq_false (by have := t0.2.2; omega)
  have w0b : decide (q0 > 1000) = false := decide_eq_false (by have := t0.2.2; omega)
  have u1a : decide (i1 < 10000000) = false := decide_eq_false (by have := t1.1; omega)
  have u1b : decide (i1 > 40000000) = false := decide_eq_false (by have := t1.1; omega)
  have v1a : decide (j1 < 0) = false := decide_eq_false (by have := t1.2.1; omega)
  have v1b : decide (j1 > 1000) = false := decide_eq_false (by have := t1.2.1; omega)
  have w1a : decide (q1 < 1) = false := decide_eq_false (by have := t1.2.2; omega)
  have w1b : decide (q1 > 1000) = false := decide_eq_false (by have := t1.2.2; omega)
  simp only [cy0, cy1, cy2, cy3, cy4, cy5, cy6, cy7, cy8, cy9, cy11, cy14, cy15, cy16, cy17, cy19, cy20, cy21, cy22, cy24, cy25, cy27, cy28, cy29, cy30, cy31, cy32, cy33, cy34, cy35, cy36, cy37, cy38, cy39, cyV, keep, q5, q6, q7, qq, e1, e2, e3, e4, e5, e6, e7, e8, e9, e10, e11, e12, e13, e14, e15, e16, e17, e18, e19, e20, e21, e22, e23, e24, e25, e26, u0a, u0b, v0a, v0b, w0a, w0b, u1a, u1b, v1a, v1b, w1a, w1b, beq_self_eq_true, Bool.and_true, Bool.and_self, cond_true, cond_false, Bool.not_true, Bool.not_false]
  rfl
theorem std2_n {c k a0 a1 a2 a3 f0 f1 o th : Int} {s : ByteArray} {se ho i0 j0 q0 i1 j1 q1 : Int} (h : inG s) : cyN c k a0 a1 a2 a3 f0 f1 o th s se ho i0 j0 q0 i1 j1 q1 := by
  unfold cyN
  repeat' first | with_reducible exact rfl | refine And.intro ?_ ?_ | intro _
  exact isG_of h (by assumption)
theorem std3_0 {c k a0 a1 a2 a3 f0 f1 o th : Int} {s : ByteArray} {se ho i0 j0 q0 i1 j1 q1 i2 j2 q2 : Int} (h : vStd c k a0 a1 a2 a3 f0 f1 o th s se ho) (t0 : inF i0 j0 q0) (t1 : inF i1 j1 q1) (t2 : inF i2 j2 q2) : czV c k a0 a1 a2 a3 f0 f1 o th s se ho i0 j0 q0 i1 j1 q1 i2 j2 q2 = 0 := by
  have e1 := lo_f h.hc; have e2 := hi_f h.hc; have e3 := klo_f h.hk; have e4 := khi_f h.hk
  have e5 := lo_f h.h0; have e6 := hi_f h.h0; have e7 := lo_f h.h1; have e8 := hi_f h.h1; have e9 := lo_f h.h2; have e10 := hi_f h.h2; have e11 := lo_f h.h3; have e12 := hi_f h.h3
  have e13 := lo_f h.hf; have e14 := hi_f h.hf; have e15 := lo_f h.hg; have e16 := hi_f h.hg; have e17 := lo_f h.ht; have e18 := hi_f h.ht
  have e19 : decide (o < (-3 : Int)) = false := decide_eq_false (by have := h.ho'; omega)
  have e20 : decide (o > 3) = false := decide_eq_false (by have := h.ho'; omega)
  have hsh := h.sh
  have e21 : decide (se < 0) = false := decide_eq_false (by unfold inSH at hsh; omega)
  have e22 : decide (se > 1000000000) = false := decide_eq_false (by unfold inSH at hsh; omega)
  have e23 : decide (ho < 0) = false := decide_eq_false (by unfold inSH at hsh; omega)
  have e24 : decide (ho > 1000000000) = false := decide_eq_false (by unfold inSH at hsh; omega)
  have e25 := sh_f hsh
  have e26 := eqB_self s
  have keep : (bif o != 0 then !eqBytes s ⟨#[77, 73, 82, 82, 79, 82]⟩ else false) = (o != 0) := by
    rcases h.ph with ⟨_, _, rfl⟩ | ⟨h1, h2⟩
    · rfl
    · rw [show eqBytes s ⟨#[77, 73, 82, 82, 79, 82]⟩ = false from eqB_ne h2]; cases o != 0 <;> rfl
  have q5 : (bif o != 0 then f0 else 0) = f0 := by
    rcases h.ph with ⟨rfl, _, rfl⟩ | ⟨h1, h2⟩
    · rfl
    · rw [show (o != 0) = true by simpa using h1]; rfl
  have q6 : (bif o != 0 then f1 else 0) = f1 := by
    rcases h.ph with ⟨_, rfl, rfl⟩ | ⟨h1, h2⟩
    · rfl
    · rw [show (o != 0) = true by simpa using h1]; rfl
  have q7 : (bif o != 0 then o else 0) = o := by
    cases h1 : o != 0 with
    | true => rfl
    | false => have : o = 0 := by simpa using h1
               subst this; rfl
  have qq : ∀ x : Int, (bif o != 0 then x else x) = x := fun x => by cases o != 0 <;> rfl
  have u0a : decide (i0 < 10000000) = false := decide_eq_false (by have := t0.1; omega)
  have u0b : decide (i0 > 40000000) = false := decide_eq_false (by have := t0.1; omega)
  have v0a : decide (j0 < 0) = false := decide_eq_false (by have := t0.2.1; omega)
  have v0b : decide (j0 > 1000) = false := decide_eq_false (by have := t0.2.1; omega)
  have w0a : decide (q0 < 1) = false := decide_eq_false (by have := t0.2.2; omega)
  have w0b : decide (q0 > 1000) = false := decide_eq_false (by have := t0.2.2; omega)
  have u1a : decide (i1 < 10000000) = false := decide_eq_false (by have := t1.1; omega)
  have u1b : decide (i1 > 40000000) = false := decide_eq_false (by have := t1.1; omega)
  have v1a : decide (j1 < 0) = false := decide_eq_false (by have := t1.2.1; omega)
  have v1b : decide (j1 > 1000) = false := decide_eq_false (by have := t1.2.1; omega)
  have w1a : decide (q1 < 1) = false := decide_eq_false (by have := t1.2.2; omega)
  have w1b : decide (q1 > 1000) = false := decide_eq_false (by have := t1.2.2; omega)
  have u2a : decide (i2 < 10000000) = false := decide_eq_false (by have := t2.1; omega)
  have u2b : decide (i2 > 40000000) = false := decide_eq_false (by have := t2.1; omega)
  have v2a : decide (j2 < 0) = false := decide_eq_false (by have := t2.2.1; omega)
  have v2b : decide (j2 > 1000) = false := decide_eq_false (by have := t2.2.1; omega)
  have w2a : decide (q2 < 1) = false := decide_eq_false (by have := t2.2.2; omega)
  have w2b : decide (q2 > 1000) = false := decide_eq_false (by have := t2.2.2; omega)
  simp only [cz0, cz1, cz2, cz3, cz4, cz5, cz6, cz7, cz8, cz9, cz10, cz11, cz13, cz16, cz17, cz18, cz19, cz21, cz22, cz23, cz24, cz26, cz27, cz29, cz30, cz31, cz32, cz33, cz34, cz35, cz36, cz37, cz38, cz39, cz40, cz41, cz42, cz43, cz44, cz45, czV, keep, q5, q6, q7, qq, e1, e2, e3, e4, e5, e6, e7, e8, e9, e10, e11, e12, e13, e14, e15, e16, e17, e18, e19, e20, e21, e22, e23, e24, e25, e26, u0a, u0b, v0a, v0b, w0a, w0b, u1a, u1b, v1a, v1b, w1a, w1b, u2a, u2b, v2a, v2b, w2a, w2b, beq_self_eq_true, Bool.and_true, Bool.and_self, cond_true, cond_false, Bool.not_true, Bool.not_false]
  rfl
theorem std3_n {c k a0 a1 a2 a3 f0 f1 o th : Int} {s : ByteArray} {se ho i0 j0 q0 i1 j1 q1 i2 j2 q2 : Int} (h : inG s) : czN c k a0 a1 a2 a3 f0 f1 o th s se ho i0 j0 q0 i1 j1 q1 i2 j2 q2 := by
  unfold czN
  repeat' first | with_reducible exact rfl | refine And.intro ?_ ?_ | intro _
  exact isG_of h (by assumption)
end Go.Rd

/- Printed: what aper.Inside reckons of Semi, Hole and the spans. No program. -/
namespace Go.Rd
open Go Go.Eng Go.Ar
def ij0 (se ho a b x y : Int) : Bool := se != 0
def ij1 (se ho a b x y : Int) : Int := IntKind.u64.wrap (IntKind.i64.wrap (se * se))
def ij3 (se ho a b x y : Int) : Int := IntKind.u64.wrap (addS (sqrS a b).lo (sqrS a b).hi (sqrS x y).lo (sqrS x y).hi).lo
def ij5 (se ho a b x y : Int) : Int := ij1 se ho a b x y * (4294967296 : Int)
def ij6 (se ho a b x y : Int) : Int := ij5 se ho a b x y / two64
def ij7 (se ho a b x y : Int) : Int := ij3 se ho a b x y * (1000000000000 : Int)
def ij8 (se ho a b x y : Int) : Int := ij7 se ho a b x y / two64
def ij9 (se ho a b x y : Int) : Int := ij5 se ho a b x y % two64
def ij10 (se ho a b x y : Int) : Int := ij7 se ho a b x y % two64
def ij11 (se ho a b x y : Int) : Bool := bif decide (ij6 se ho a b x y < ij8 se ho a b x y) then true
else
  bif ij6 se ho a b x y == ij8 se ho a b x y then
    decide (ij9 se ho a b x y < ij10 se ho a b x y)
  else false
def ij12 (se ho a b x y : Int) : Bool := ho != 0
def ij13 (se ho a b x y : Int) : Int := IntKind.u64.wrap (addS (sqrS a b).lo (sqrS a b).hi (sqrS x y).lo (sqrS x y).hi).hi
def ij14 (se ho a b x y : Int) : Int := IntKind.u64.wrap (IntKind.i64.wrap (ho * ho))
def ij15 (se ho a b x y : Int) : Int := ij13 se ho a b x y * (1000000000000 : Int)
def ij16 (se ho a b x y : Int) : Int := ij15 se ho a b x y / two64
def ij17 (se ho a b x y : Int) : Int := ij14 se ho a b x y * (4294967296 : Int)
def ij18 (se ho a b x y : Int) : Int := ij17 se ho a b x y / two64
def ij19 (se ho a b x y : Int) : Int := ij15 se ho a b x y % two64
def ij20 (se ho a b x y : Int) : Int := ij17 se ho a b x y % two64
def ij21 (se ho a b x y : Int) : Bool := bif ij12 se ho a b x y then
  bif decide (ij16 se ho a b x y < ij18 se ho a b x y) then true
  else
    bif ij16 se ho a b x y == ij18 se ho a b x y then
      decide (ij19 se ho a b x y < ij20 se ho a b x y)
    else false
else false
def ij22 (se ho a b x y : Int) : Bool := !bif ij0 se ho a b x y then bif ij11 se ho a b x y then true else ij21 se ho a b x y
  else ij21 se ho a b x y
def ij23 (se ho a b x y : Int) : Bool := bif decide (ij6 se ho a b x y < ij16 se ho a b x y) then true
else
  bif ij6 se ho a b x y == ij16 se ho a b x y then
    decide (ij9 se ho a b x y < ij19 se ho a b x y)
  else false
def ij24 (se ho a b x y : Int) : Bool := bif ij12 se ho a b x y then
  bif decide (ij8 se ho a b x y < ij18 se ho a b x y) then true
  else
    bif ij8 se ho a b x y == ij18 se ho a b x y then
      decide (ij10 se ho a b x y < ij20 se ho a b x y)
    else false
else false
def ijN (se ho a b x y : Int) : Prop := (
        (okSp a b = true ∧ okSp x y = true) ∧
          ((sqrS a b).e = 0 ∧
              (sqrS x y).e = 0 ∧ (addS (sqrS a b).lo (sqrS a b).hi (sqrS x y).lo (sqrS x y).hi).e = 0) ∧
            ((ij0 se ho a b x y = true →
                  (decide
                          (0 ≤ ij1 se ho a b x y ∧
                            ij1 se ho a b x y < 18446744073709551616 ∧
                              0 ≤ (4294967296 : Int) ∧
                                (4294967296 : Int) < 18446744073709551616) =
                        true ∧
                      decide
                          (0 ≤ ij3 se ho a b x y ∧
                            ij3 se ho a b x y < 18446744073709551616 ∧
                              0 ≤ (1000000000000 : Int) ∧
                                (1000000000000 : Int) < 18446744073709551616) =
                        true) ∧
                    (ij11 se ho a b x y = false →
                      ij12 se ho a b x y = true →
                        decide
                              (0 ≤ ij13 se ho a b x y ∧
                                ij13 se ho a b x y < 18446744073709551616 ∧
                                  0 ≤ (1000000000000 : Int) ∧
                                    (1000000000000 : Int) < 18446744073709551616) =
                            true ∧
                          decide
                              (0 ≤ ij14 se ho a b x y ∧
                                ij14 se ho a b x y < 18446744073709551616 ∧
                                  0 ≤ (4294967296 : Int) ∧
                                    (4294967296 : Int) < 18446744073709551616) =
                            true)) ∧
                (ij0 se ho a b x y = false →
                  ij12 se ho a b x y = true →
                    decide
                          (0 ≤ ij13 se ho a b x y ∧
                            ij13 se ho a b x y < 18446744073709551616 ∧
                              0 ≤ (1000000000000 : Int) ∧
                                (1000000000000 : Int) < 18446744073709551616) =
                        true ∧
                      decide
                          (0 ≤ ij14 se ho a b x y ∧
                            ij14 se ho a b x y < 18446744073709551616 ∧
                              0 ≤ (4294967296 : Int) ∧
                                (4294967296 : Int) < 18446744073709551616) =
                        true)) ∧
              (ij22 se ho a b x y = true →
                (ij0 se ho a b x y = true →
                    (decide
                            (0 ≤ ij1 se ho a b x y ∧
                              ij1 se ho a b x y < 18446744073709551616 ∧
                                0 ≤ (4294967296 : Int) ∧
                                  (4294967296 : Int) < 18446744073709551616) =
                          true ∧
                        decide
                            (0 ≤ ij13 se ho a b x y ∧
                              ij13 se ho a b x y < 18446744073709551616 ∧
                                0 ≤ (1000000000000 : Int) ∧
                                  (1000000000000 : Int) < 18446744073709551616) =
                          true) ∧
                      (ij23 se ho a b x y = false →
                        ij12 se ho a b x y = true →
                          decide
                                (0 ≤ ij3 se ho a b x y ∧
                                  ij3 se ho a b x y < 18446744073709551616 ∧
                                    0 ≤ (1000000000000 : Int) ∧
                                      (1000000000000 : Int) < 18446744073709551616) =
                              true ∧
                            decide
                                (0 ≤ ij14 se ho a b x y ∧
                                  ij14 se ho a b x y < 18446744073709551616 ∧
                                    0 ≤ (4294967296 : Int) ∧
                                      (4294967296 : Int) < 18446744073709551616) =
                              true)) ∧
                  (ij0 se ho a b x y = false →
                    ij12 se ho a b x y = true →
                      decide
                            (0 ≤ ij3 se ho a b x y ∧
                              ij3 se ho a b x y < 18446744073709551616 ∧
                                0 ≤ (1000000000000 : Int) ∧
                                  (1000000000000 : Int) < 18446744073709551616) =
                          true ∧
                        decide
                            (0 ≤ ij14 se ho a b x y ∧
                              ij14 se ho a b x y < 18446744073709551616 ∧
                                0 ≤ (4294967296 : Int) ∧
                                  (4294967296 : Int) < 18446744073709551616) =
                          true)))
def ijV (se ho a b x y : Int) : Int := (bif ij22 se ho a b x y then
            bif
                !!bif ij0 se ho a b x y then
                      bif ij23 se ho a b x y then true else ij24 se ho a b x y
                    else ij24 se ho a b x y then
              (2 : Int)
            else (1 : Int)
          else 0)
end Go.Rd

/- The plain law of aper.Inside. No program. -/
namespace Go.Rd
open Go Go.Eng Go.Ar

def lowA (X Y : Int) : Int := mx (mx X (-Y)) 0
def hiA (X Y : Int) : Int := mx Y (-X)

theorem sq_nn (a : Int) : 0 ≤ a * a := by
  rcases Int.le_total 0 a with c | c
  · exact Int.mul_nonneg c c
  · exact Int.mul_nonneg_of_nonpos_of_nonpos c c

theorem lowA_bd {X Y : Int} (h0 : -32768 ≤ X) (h1 : X ≤ Y) (h2 : Y ≤ 32767) : 0 ≤ lowA X Y ∧ lowA X Y ≤ hiA X Y ∧ hiA X Y ≤ 32768 := by
  have a := le_mx X (-Y)
  have b := le_mx (mx X (-Y)) 0
  have c := le_mx Y (-X)
  unfold lowA hiA
  omega

theorem rd_sq (m : Int) (up : Bool) : rd (m * 16777216 * (m * 16777216)) 4294967296 up = m * m * 65536 := by
  have e : m * 16777216 * (m * 16777216) = m * m * 65536 * 4294967296 := by grind
  rw [e]
  cases up
  · exact Int.mul_ediv_cancel _ (by decide)
  · show -(-(m * m * 65536 * 4294967296) / 4294967296) = _
    rw [← Int.neg_mul, Int.mul_ediv_cancel _ (by decide), Int.neg_neg]

theorem mx_mul (a b : Int) : mx (a * 16777216) (b * 16777216) = mx a b * 16777216 := by
  have h1 := le_mx a b
  have h2 := le_mx (a * 16777216) (b * 16777216)
  omega

theorem sqr_sp {X Y : Int} (h0 : -32768 ≤ X) (h1 : X ≤ Y) (h2 : Y ≤ 32767) : sqrS (X * 16777216) (Y * 16777216) = ⟨lowA X Y * lowA X Y * 65536, hiA X Y * hiA X Y * 65536, 0⟩ := by
  obtain ⟨b0, b1, b2⟩ := lowA_bd h0 h1 h2
  have eL : abL (X * 16777216) (Y * 16777216) = lowA X Y * 16777216 := by
    unfold abL lowA
    rw [← Int.neg_mul, mx_mul, show (0 : Int) = 0 * 16777216 from rfl, mx_mul]; rfl
  have eH : abH (X * 16777216) (Y * 16777216) = hiA X Y * 16777216 := by
    unfold abH hiA
    rw [← Int.neg_mul, mx_mul]
  have q1 := Int.mul_le_mul (show lowA X Y ≤ 32768 by omega) (show lowA X Y ≤ 32768 by omega) b0 (by omega)
  have q2 := Int.mul_le_mul b2 b2 (show 0 ≤ hiA X Y by omega) (by omega)
  have n1 := sq_nn (lowA X Y)
  have n2 := sq_nn (hiA X Y)
  unfold sqrS
  rw [okSp_iff.2 (by omega), eL, eH, cond_true, rd_sq, rd_sq]
  unfold toldS
  rw [okF_iff.2 (by omega), okF_iff.2 (by omega)]
  rfl

def qL (a b x y : Int) : Int := (addS (sqrS a b).lo (sqrS a b).hi (sqrS x y).lo (sqrS x y).hi).lo
def qH (a b x y : Int) : Int := (addS (sqrS a b).lo (sqrS a b).hi (sqrS x y).lo (sqrS x y).hi).hi
def holeB (ho q : Int) : Bool := bif ho != 0 then decide (q * 1000000000000 < ho * ho * 4294967296) else false
def judB (se ho p q : Int) : Bool := bif se != 0 then (bif decide (se * se * 4294967296 < p * 1000000000000) then true else holeB ho q) else holeB ho q
/-- What aper.Inside answers. -/
def insV (se ho L H : Int) : Int := bif !judB se ho L H then (bif !!judB se ho H L then 2 else 1) else 0

structure InsIn (se ho X Y U V : Int) : Prop where
  s0 : 0 ≤ se
  s1 : se ≤ 1000000000
  h0 : 0 ≤ ho
  h1 : ho ≤ 1000000000
  x0 : -32768 ≤ X
  x1 : X ≤ Y
  x2 : Y ≤ 32767
  u0 : -32768 ≤ U
  u1 : U ≤ V
  u2 : V ≤ 32767

def insOk (se ho a b x y : Int) : Prop := ∃ X Y U V, InsIn se ho X Y U V ∧ a = X * 16777216 ∧ b = Y * 16777216 ∧ x = U * 16777216 ∧ y = V * 16777216

theorem add_q {X Y U V : Int} (hx : -32768 ≤ X ∧ X ≤ Y ∧ Y ≤ 32767) (hu : -32768 ≤ U ∧ U ≤ V ∧ V ≤ 32767) :
    let l := (lowA X Y * lowA X Y + lowA U V * lowA U V) * 65536
    let h := (hiA X Y * hiA X Y + hiA U V * hiA U V) * 65536
    addS (sqrS (X * 16777216) (Y * 16777216)).lo (sqrS (X * 16777216) (Y * 16777216)).hi (sqrS (U * 16777216) (V * 16777216)).lo (sqrS (U * 16777216) (V * 16777216)).hi = ⟨l, h, 0⟩ ∧ 0 ≤ l ∧ l ≤ h ∧ h ≤ 140737488355328 := by
  intro l h
  obtain ⟨b0, b1, b2⟩ := lowA_bd hx.1 hx.2.1 hx.2.2
  obtain ⟨c0, c1, c2⟩ := lowA_bd hu.1 hu.2.1 hu.2.2
  have q1 := Int.mul_le_mul b1 b1 b0 (by omega)
  have q2 := Int.mul_le_mul b2 b2 (show 0 ≤ hiA X Y by omega) (by omega)
  have q3 := Int.mul_le_mul c1 c1 c0 (by omega)
  have q4 := Int.mul_le_mul c2 c2 (show 0 ≤ hiA U V by omega) (by omega)
  have n1 := sq_nn (lowA X Y)
  have n2 := sq_nn (lowA U V)
  refine ⟨?_, by omega, by omega, by omega⟩
  rw [sqr_sp hx.1 hx.2.1 hx.2.2, sqr_sp hu.1 hu.2.1 hu.2.2]
  show addS (lowA X Y * lowA X Y * 65536) (hiA X Y * hiA X Y * 65536) (lowA U V * lowA U V * 65536) (hiA U V * hiA U V * 65536) = _
  unfold addS both toldS
  rw [okSp_iff.2 (by omega), okSp_iff.2 (by omega), okF_iff.2 (by omega), okF_iff.2 (by omega)]
  show (⟨_, _, 0⟩ : Sp) = _
  rw [← Int.add_mul, ← Int.add_mul]

theorem ins_all {se ho a b x y : Int} (n : insOk se ho a b x y) : ijN se ho a b x y ∧ ijV se ho a b x y = insV se ho (qL a b x y) (qH a b x y) := by
  obtain ⟨X, Y, U, V, ⟨s0, s1, h0, h1, x0, x1, x2, u0, u1, u2⟩, rfl, rfl, rfl, rfl⟩ := n
  have e1 := sqr_sp x0 x1 x2
  have e2 := sqr_sp u0 u1 u2
  obtain ⟨ea, l0, l1, l2⟩ := add_q ⟨x0, x1, x2⟩ ⟨u0, u1, u2⟩
  have oa : okSp (X * 16777216) (Y * 16777216) = true := okSp_iff.2 (by omega)
  have ou : okSp (U * 16777216) (V * 16777216) = true := okSp_iff.2 (by omega)
  have SS0 := Int.mul_nonneg s0 s0
  have SS1 := Int.mul_le_mul s1 s1 s0 (by omega)
  have HH0 := Int.mul_nonneg h0 h0
  have HH1 := Int.mul_le_mul h1 h1 h0 (by omega)
  have z1 : (sqrS (X * 16777216) (Y * 16777216)).e = 0 := by rw [e1]
  have z2 : (sqrS (U * 16777216) (V * 16777216)).e = 0 := by rw [e2]
  have z3 := congrArg Sp.e ea
  have eL : qL (X * 16777216) (Y * 16777216) (U * 16777216) (V * 16777216) = _ := congrArg Sp.lo ea
  have eH : qH (X * 16777216) (Y * 16777216) (U * 16777216) (V * 16777216) = _ := congrArg Sp.hi ea
  simp only at eL eH z3
  generalize (lowA X Y * lowA X Y + lowA U V * lowA U V) * 65536 = L at *
  generalize (hiA X Y * hiA X Y + hiA U V * hiA U V) * 65536 = H at *
  have i1 : ij1 se ho (X * 16777216) (Y * 16777216) (U * 16777216) (V * 16777216) = se * se := by
    unfold ij1; rw [i64w (by omega) (by omega), Go.Rd.u64w (by omega) (by omega)]
  have i14 : ij14 se ho (X * 16777216) (Y * 16777216) (U * 16777216) (V * 16777216) = ho * ho := by
    unfold ij14; rw [i64w (by omega) (by omega), Go.Rd.u64w (by omega) (by omega)]
  have i3 : ij3 se ho (X * 16777216) (Y * 16777216) (U * 16777216) (V * 16777216) = L := by
    unfold ij3; rw [show (addS _ _ _ _).lo = _ from eL]; exact Go.Rd.u64w (by omega) (by omega)
  have i13 : ij13 se ho (X * 16777216) (Y * 16777216) (U * 16777216) (V * 16777216) = H := by
    unfold ij13; rw [show (addS _ _ _ _).hi = _ from eH]; exact Go.Rd.u64w (by omega) (by omega)
  rw [eL, eH]
  generalize X * 16777216 = a at *
  generalize Y * 16777216 = b at *
  generalize U * 16777216 = x at *
  generalize V * 16777216 = y at *
  have d1 : decide (0 ≤ ij1 se ho a b x y ∧ ij1 se ho a b x y < 18446744073709551616 ∧ 0 ≤ (4294967296 : Int) ∧ (4294967296 : Int) < 18446744073709551616) = true := by rw [i1]; exact decide_eq_true (by omega)
  have d14 : decide (0 ≤ ij14 se ho a b x y ∧ ij14 se ho a b x y < 18446744073709551616 ∧ 0 ≤ (4294967296 : Int) ∧ (4294967296 : Int) < 18446744073709551616) = true := by rw [i14]; exact decide_eq_true (by omega)
  have d3 : decide (0 ≤ ij3 se ho a b x y ∧ ij3 se ho a b x y < 18446744073709551616 ∧ 0 ≤ (1000000000000 : Int) ∧ (1000000000000 : Int) < 18446744073709551616) = true := by rw [i3]; exact decide_eq_true (by omega)
  have d13 : decide (0 ≤ ij13 se ho a b x y ∧ ij13 se ho a b x y < 18446744073709551616 ∧ 0 ≤ (1000000000000 : Int) ∧ (1000000000000 : Int) < 18446744073709551616) = true := by rw [i13]; exact decide_eq_true (by omega)
  refine ⟨⟨⟨oa, ou⟩, ⟨z1, z2, z3⟩, ⟨fun _ => ⟨⟨d1, d3⟩, fun _ _ => ⟨d13, d14⟩⟩, fun _ _ => ⟨d13, d14⟩⟩, fun _ => ⟨fun _ => ⟨⟨d1, d13⟩, fun _ _ => ⟨d3, d14⟩⟩, fun _ _ => ⟨d3, d14⟩⟩⟩, ?_⟩
  have i11 : ij11 se ho a b x y = decide (se * se * 4294967296 < L * 1000000000000) := by
    have := two_words (ij1 se ho a b x y * 4294967296) (ij3 se ho a b x y * 1000000000000) (by omega) (by omega)
    rw [i1, i3] at this
    rw [← this]; unfold ij11 ij6 ij8 ij9 ij10 ij5 ij7; rw [i1, i3]; rfl
  have i23 : ij23 se ho a b x y = decide (se * se * 4294967296 < H * 1000000000000) := by
    have := two_words (ij1 se ho a b x y * 4294967296) (ij13 se ho a b x y * 1000000000000) (by omega) (by omega)
    rw [i1, i13] at this
    rw [← this]; unfold ij23 ij6 ij16 ij9 ij19 ij5 ij15; rw [i1, i13]; rfl
  have i21 : ij21 se ho a b x y = holeB ho H := by
    have := two_words (ij13 se ho a b x y * 1000000000000) (ij14 se ho a b x y * 4294967296) (by omega) (by omega)
    rw [i13, i14] at this
    unfold holeB; rw [← this]; unfold ij21 ij12 ij16 ij18 ij19 ij20 ij15 ij17; rw [i13, i14]; rfl
  have i24 : ij24 se ho a b x y = holeB ho L := by
    have := two_words (ij3 se ho a b x y * 1000000000000) (ij14 se ho a b x y * 4294967296) (by omega) (by omega)
    rw [i3, i14] at this
    unfold holeB; rw [← this]; unfold ij24 ij12 ij8 ij18 ij10 ij20 ij7 ij17; rw [i3, i14]; rfl
  unfold ijV insV ij22 ij0 judB
  rw [i11, i23, i21, i24]

/-! ### Greater spans -/
theorem jud_mono {se ho p q p' q' : Int} (hp : p ≤ p') (hq : q' ≤ q) (h : judB se ho p q = true) : judB se ho p' q' = true := by
  unfold judB holeB at *
  cases h1 : se != 0 <;> cases h2 : ho != 0 <;> simp only [h1, h2, cond_true, cond_false] at h ⊢
  · exact h
  · have := of_decide_eq_true h
    exact decide_eq_true (by omega)
  · cases h3 : decide (se * se * 4294967296 < p * 1000000000000) with
    | false => rw [h3] at h; cases h
    | true => have := of_decide_eq_true h3; rw [decide_eq_true (by omega)]; rfl
  · cases h3 : decide (se * se * 4294967296 < p * 1000000000000) with
    | false =>
      rw [h3] at h
      have := of_decide_eq_true (show decide (q * 1000000000000 < ho * ho * 4294967296) = true from h)
      rw [show decide (q' * 1000000000000 < ho * ho * 4294967296) = true from decide_eq_true (by omega)]
      cases decide (se * se * 4294967296 < p' * 1000000000000) <;> rfl
    | true => have := of_decide_eq_true h3; rw [decide_eq_true (show se * se * 4294967296 < p' * 1000000000000 by omega)]; rfl

theorem ins_within {se ho L H L' H' : Int} (hl : L ≤ L') (hh : H' ≤ H) (hr : L' ≤ H') : (bif insV se ho L H == 2 then true else insV se ho L H == insV se ho L' H') = true := by
  unfold insV
  cases a : judB se ho L H with
  | true => rw [jud_mono hl hh a]; rfl
  | false =>
    cases b : judB se ho H L with
    | true => rfl
    | false =>
      have c : judB se ho H' L' = false := by
        cases c : judB se ho H' L' with
        | false => rfl
        | true => rw [jud_mono hh hl c] at b; cases b
      have d : judB se ho L' H' = false := by
        cases d : judB se ho L' H' with
        | false => rfl
        | true => rw [jud_mono hr hr d] at c; cases c
      rw [c, d]; rfl
end Go.Rd
