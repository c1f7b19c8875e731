/- What is proved: SurfaceEven returns true, whatever the input (part 6 of 24). No conditions beyond those of the row. -/
import Derived.Test.YtiigkjnhmipnfaaGreatDoorPE
set_option linter.unusedVariables false
set_option linter.unusedSimpArgs false
set_option linter.unusedSectionVars false
namespace Go.Rd
open Go Go.Eng Go.Ar
def va1 (p q : Int) : Bool := bif decide (p > q) then true else bif decide (p < (-4503599627370496 : Int)) then true else decide (q > 4503599627370496)
def va2 (p q : Int) : Bool := !va1 p q
def va3 (z14 : Int) : Int := IntKind.i64.wrap (100000 * IntKind.i64.wrap z14)
def va4 (z14 z15 : Int) : Bool := bif z15.tmod (4 : Int) == 1 then decide (va3 z14 > 0) else false
def va5 (z1 : Int) : Int := IntKind.i64.wrap (1000 * IntKind.i64.wrap z1)
def va6 (z1 z14 z15 : Int) : Int := bif va4 z14 z15 then va5 z1 else va5 z1
def va7 (z3 : Int) : Int := IntKind.i64.wrap (1000 * IntKind.i64.wrap (z3.tmod 3000))
def va8 (z3 z14 z15 : Int) : Int := bif va4 z14 z15 then va7 z3 else va7 z3
def va9 (z12 : Int) : Int := IntKind.i64.wrap (1000 * IntKind.i64.wrap (z12.tmod 20000))
def va10 (q : Int) : Int := IntKind.i64.wrap (0 - q)
def va11 (p : Int) : Int := IntKind.i64.wrap (0 - p)
def va16 (z1 z3 z14 z15 p q r t : Int) : Bool := plc (badR p q) (slStT (va6 z1 z14 z15) (va8 z3 z14 z15) 0 0 0 0 p q r t) (slStT (va6 z1 z14 z15) (va8 z3 z14 z15) 0 0 0 0 (va10 q) (va11 p) r t)
def va17 (x0 : Int) : Int := IntKind.i64.wrap (IntKind.i64.wrap x0 * 16777216)
def va18 (x0 : Int) : Bool := bif decide (va17 x0 > va17 x0) then true else bif decide (va17 x0 < (-4503599627370496 : Int)) then true else decide (va17 x0 > 4503599627370496)
def va19 (x0 : Int) : Bool := !va18 x0
def va20 (x1 : Int) : Int := IntKind.i64.wrap (IntKind.i64.wrap x1 * 16777216)
def va21 (x0 : Int) : Int := IntKind.i64.wrap (0 - va17 x0)
def va26 (z1 z3 z14 z15 x0 x1 : Int) : Bool := plc (badR (va17 x0) (va17 x0)) (slStT (va6 z1 z14 z15) (va8 z3 z14 z15) 0 0 0 0 (va17 x0) (va17 x0) (va20 x1) (va20 x1)) (slStT (va6 z1 z14 z15) (va8 z3 z14 z15) 0 0 0 0 (va21 x0) (va21 x0) (va20 x1) (va20 x1))
def va27 (x0 x2 : Int) : Int := IntKind.i64.wrap ((if IntKind.i64.wrap x2 < IntKind.i64.wrap x0 then IntKind.i64.wrap x2 else IntKind.i64.wrap x0) * 16777216)
def va28 (x0 x2 : Int) : Int := IntKind.i64.wrap ((if IntKind.i64.wrap x2 > IntKind.i64.wrap x0 then IntKind.i64.wrap x2 else IntKind.i64.wrap x0) * 16777216)
def va29 (x0 x2 : Int) : Bool := bif decide (va27 x0 x2 > va28 x0 x2) then true else bif decide (va27 x0 x2 < (-4503599627370496 : Int)) then true else decide (va28 x0 x2 > 4503599627370496)
def va30 (x0 x2 : Int) : Bool := !va29 x0 x2
def va31 (x1 x3 : Int) : Int := IntKind.i64.wrap ((if IntKind.i64.wrap x3 < IntKind.i64.wrap x1 then IntKind.i64.wrap x3 else IntKind.i64.wrap x1) * 16777216)
def va32 (x1 x3 : Int) : Int := IntKind.i64.wrap ((if IntKind.i64.wrap x3 > IntKind.i64.wrap x1 then IntKind.i64.wrap x3 else IntKind.i64.wrap x1) * 16777216)
def va33 (x0 x2 : Int) : Int := IntKind.i64.wrap (0 - va28 x0 x2)
def va34 (x0 x2 : Int) : Int := IntKind.i64.wrap (0 - va27 x0 x2)
def va39 (z1 z3 z14 z15 x0 x1 x2 x3 : Int) : Bool := plc (badR (va27 x0 x2) (va28 x0 x2)) (slStT (va6 z1 z14 z15) (va8 z3 z14 z15) 0 0 0 0 (va27 x0 x2) (va28 x0 x2) (va31 x1 x3) (va32 x1 x3)) (slStT (va6 z1 z14 z15) (va8 z3 z14 z15) 0 0 0 0 (va33 x0 x2) (va34 x0 x2) (va31 x1 x3) (va32 x1 x3))
def vaS (z1 z3 z12 z14 z15 : Int) (gl : ByteArray) : Prop := vStd (va6 z1 z14 z15) (va8 z3 z14 z15) 0 0 0 0 0 0 0 (bif va4 z14 z15 then va9 z12 else va9 z12) (bif va4 z14 z15 then gl else gl) (bif va4 z14 z15 then va3 z14 else va3 z14) (bif va4 z14 z15 then IntKind.i64.wrap ((va3 z14).tdiv 4) else 0)
def vaN (z0 z1 z2 z3 z4 z5 z6 z7 z8 z9 z10 z11 z12 z13 z14 z15 z16 z17 z18 z19 z20 : Int) (gl : ByteArray) (g : Nat) (n p q r t x0 x1 x2 x3 : Int) : Prop := ((((z14 = z14 ∧ z13 = z13 ∧ z12 = z12 ∧ z3 = z3 ∧ z1 = z1) ∧ (IntKind.i64.wrap z13).tmod 5 = (g : Int)) ∧ (z0.tmod (8 : Int) == 4) = false ∧ (z0.tmod (8 : Int) == 5) = false ∧ (z0.tmod (8 : Int) == 6) = false ∧ (z0.tmod (8 : Int) == 7) = false) ∧ (((r = r ∧ t = t) ∧ x0 = x0 ∧ x3 = x3 ∧ x1 = x1 ∧ x2 = x2 ∧ x0 = x0 ∧ x1 = x1 ∧ (r = r ∧ t = t) ∧ p = p ∧ q = q) ∧ ((r = r ∧ t = t) ∧ x0 = x0 ∧ x3 = x3 ∧ x1 = x1 ∧ x2 = x2 ∧ x0 = x0 ∧ (r = r ∧ t = t) ∧ p = p ∧ q = q) ∧ ((r = r ∧ t = t) ∧ x0 = x0 ∧ x3 = x3 ∧ x1 = x1 ∧ (r = r ∧ t = t) ∧ p = p ∧ q = q) ∧ ((r = r ∧ t = t) ∧ x0 = x0 ∧ (r = r ∧ t = t) ∧ p = p ∧ q = q) ∧ (r = r ∧ t = t) ∧ (r = r ∧ t = t) ∧ p = p ∧ q = q) ∧ (va2 p q = true → vaS z1 z3 z12 z14 z15 gl ∧ vaS z1 z3 z12 z14 z15 gl ∧ vaS z1 z3 z12 z14 z15 gl ∧ vaS z1 z3 z12 z14 z15 gl) ∧ (va16 z1 z3 z14 z15 p q r t = true → (va19 x0 = true → vaS z1 z3 z12 z14 z15 gl ∧ vaS z1 z3 z12 z14 z15 gl ∧ vaS z1 z3 z12 z14 z15 gl ∧ vaS z1 z3 z12 z14 z15 gl) ∧ (va26 z1 z3 z14 z15 x0 x1 = true → (va30 x0 x2 = true → vaS z1 z3 z12 z14 z15 gl ∧ vaS z1 z3 z12 z14 z15 gl ∧ vaS z1 z3 z12 z14 z15 gl ∧ vaS z1 z3 z12 z14 z15 gl) ∧ (va39 z1 z3 z14 z15 x0 x1 x2 x3 = true → va19 x0 = true → vaS z1 z3 z12 z14 z15 gl ∧ vaS z1 z3 z12 z14 z15 gl ∧ vaS z1 z3 z12 z14 z15 gl ∧ vaS z1 z3 z12 z14 z15 gl))))
def vaV (z0 z1 z2 z3 z4 z5 z6 z7 z8 z9 z10 z11 z12 z13 z14 z15 z16 z17 z18 z19 z20 : Int) (gl : ByteArray) (g : Nat) (n p q r t x0 x1 x2 x3 : Int) : Bool := evV (va16 z1 z3 z14 z15 p q r t) (va26 z1 z3 z14 z15 x0 x1) (va39 z1 z3 z14 z15 x0 x1 x2 x3) (plc (badR (va17 x0) (va17 x0)) (slStT (va6 z1 z14 z15) (va8 z3 z14 z15) 0 0 0 0 (va17 x0) (va17 x0) r t) (slStT (va6 z1 z14 z15) (va8 z3 z14 z15) 0 0 0 0 (va21 x0) (va21 x0) r t))
def vb1 (p q : Int) : Bool := bif decide (p > q) then true else bif decide (p < (-4503599627370496 : Int)) then true else decide (q > 4503599627370496)
def vb2 (p q : Int) : Bool := !vb1 p q
def vb3 (z14 : Int) : Int := IntKind.i64.wrap (100000 * IntKind.i64.wrap z14)
def vb4 (z14 z15 : Int) : Bool := bif z15.tmod (4 : Int) == 1 then decide (vb3 z14 > 0) else false
def vb5 (z1 : Int) : Int := IntKind.i64.wrap (1000 * IntKind.i64.wrap z1)
def vb6 (z1 z14 z15 : Int) : Int := bif vb4 z14 z15 then vb5 z1 else vb5 z1
def vb7 (z3 : Int) : Int := IntKind.i64.wrap (1000 * IntKind.i64.wrap (z3.tmod 3000))
def vb8 (z3 z14 z15 : Int) : Int := bif vb4 z14 z15 then vb7 z3 else vb7 z3
def vb9 (z5 : Int) : Int := IntKind.i64.wrap (1000 * IntKind.i64.wrap z5)
def vb10 (z6 : Int) : Int := IntKind.i64.wrap (1000 * IntKind.i64.wrap z6)
def vb11 (z7 : Int) : Int := IntKind.i64.wrap (1000 * IntKind.i64.wrap z7)
def vb12 (z8 : Int) : Int := IntKind.i64.wrap (1000 * IntKind.i64.wrap z8)
def vb13 (z12 : Int) : Int := IntKind.i64.wrap (1000 * IntKind.i64.wrap (z12.tmod 20000))
def vb14 (q : Int) : Int := IntKind.i64.wrap (0 - q)
def vb15 (p : Int) : Int := IntKind.i64.wrap (0 - p)
def vb20 (z1 z3 z5 z6 z7 z8 z14 z15 p q r t : Int) : Bool := plc (badR p q) (slStT (vb6 z1 z14 z15) (vb8 z3 z14 z15) (vb9 z5) (vb10 z6) (vb11 z7) (vb12 z8) p q r t) (slStT (vb6 z1 z14 z15) (vb8 z3 z14 z15) (vb9 z5) (vb10 z6) (vb11 z7) (vb12 z8) (vb14 q) (vb15 p) r t)
def vb21 (x0 : Int) : Int := IntKind.i64.wrap (IntKind.i64.wrap x0 * 16777216)
def vb22 (x0 : Int) : Bool := bif decide (vb21 x0 > vb21 x0) then true else bif decide (vb21 x0 < (-4503599627370496 : Int)) then true else decide (vb21 x0 > 4503599627370496)
def vb23 (x0 : Int) : Bool := !vb22 x0
def vb24 (x1 : Int) : Int := IntKind.i64.wrap (IntKind.i64.wrap x1 * 16777216)
def vb25 (x0 : Int) : Int := IntKind.i64.wrap (0 - vb21 x0)
def vb30 (z1 z3 z5 z6 z7 z8 z14 z15 x0 x1 : Int) : Bool := plc (badR (vb21 x0) (vb21 x0)) (slStT (vb6 z1 z14 z15) (vb8 z3 z14 z15) (vb9 z5) (vb10 z6) (vb11 z7) (vb12 z8) (vb21 x0) (vb21 x0) (vb24 x1) (vb24 x1)) (slStT (vb6 z1 z14 z15) (vb8 z3 z14 z15) (vb9 z5) (vb10 z6) (vb11 z7) (vb12 z8) (vb25 x0) (vb25 x0) (vb24 x1) (vb24 x1))
def vb31 (x0 x2 : Int) : Int := IntKind.i64.wrap ((if IntKind.i64.wrap x2 < IntKind.i64.wrap x0 then IntKind.i64.wrap x2 else IntKind.i64.wrap x0) * 16777216)
def vb32 (x0 x2 : Int) : Int := IntKind.i64.wrap ((if IntKind.i64.wrap x2 > IntKind.i64.wrap x0 then IntKind.i64.wrap x2 else IntKind.i64.wrap x0) * 16777216)
def vb33 (x0 x2 : Int) : Bool := bif decide (vb31 x0 x2 > vb32 x0 x2) then true else bif decide (vb31 x0 x2 < (-4503599627370496 : Int)) then true else decide (vb32 x0 x2 > 4503599627370496)
def vb34 (x0 x2 : Int) : Bool := !vb33 x0 x2
def vb35 (x1 x3 : Int) : Int := IntKind.i64.wrap ((if IntKind.i64.wrap x3 < IntKind.i64.wrap x1 then IntKind.i64.wrap x3 else IntKind.i64.wrap x1) * 16777216)
def vb36 (x1 x3 : Int) : Int := IntKind.i64.wrap ((if IntKind.i64.wrap x3 > IntKind.i64.wrap x1 then IntKind.i64.wrap x3 else IntKind.i64.wrap x1) * 16777216)
def vb37 (x0 x2 : Int) : Int := IntKind.i64.wrap (0 - vb32 x0 x2)
def vb38 (x0 x2 : Int) : Int := IntKind.i64.wrap (0 - vb31 x0 x2)
def vb43 (z1 z3 z5 z6 z7 z8 z14 z15 x0 x1 x2 x3 : Int) : Bool := plc (badR (vb31 x0 x2) (vb32 x0 x2)) (slStT (vb6 z1 z14 z15) (vb8 z3 z14 z15) (vb9 z5) (vb10 z6) (vb11 z7) (vb12 z8) (vb31 x0 x2) (vb32 x0 x2) (vb35 x1 x3) (vb36 x1 x3)) (slStT (vb6 z1 z14 z15) (vb8 z3 z14 z15) (vb9 z5) (vb10 z6) (vb11 z7) (vb12 z8) (vb37 x0 x2) (vb38 x0 x2) (vb35 x1 x3) (vb36 x1 x3))
def vbS (z1 z3 z5 z6 z7 z8 z12 z14 z15 : Int) (gl : ByteArray) : Prop := vStd (vb6 z1 z14 z15) (vb8 z3 z14 z15) (vb9 z5) (vb10 z6) (vb11 z7) (vb12 z8) 0 0 0 (bif vb4 z14 z15 then vb13 z12 else vb13 z12) (bif vb4 z14 z15 then gl else gl) (bif vb4 z14 z15 then vb3 z14 else vb3 z14) (bif vb4 z14 z15 then IntKind.i64.wrap ((vb3 z14).tdiv 4) else 0)
def vbN (z0 z1 z2 z3 z4 z5 z6 z7 z8 z9 z10 z11 z12 z13 z14 z15 z16 z17 z18 z19 z20 : Int) (gl : ByteArray) (g : Nat) (n p q r t x0 x1 x2 x3 : Int) : Prop := ((((z14 = z14 ∧ z13 = z13 ∧ z12 = z12 ∧ z3 = z3 ∧ z1 = z1) ∧ (IntKind.i64.wrap z13).tmod 5 = (g : Int)) ∧ (z0.tmod (8 : Int) == 4) = true ∧ decide (0 < n) = false) ∧ (((r = r ∧ t = t) ∧ x0 = x0 ∧ x3 = x3 ∧ x1 = x1 ∧ x2 = x2 ∧ x0 = x0 ∧ x1 = x1 ∧ (r = r ∧ t = t) ∧ p = p ∧ q = q) ∧ ((r = r ∧ t = t) ∧ x0 = x0 ∧ x3 = x3 ∧ x1 = x1 ∧ x2 = x2 ∧ x0 = x0 ∧ (r = r ∧ t = t) ∧ p = p ∧ q = q) ∧ ((r = r ∧ t = t) ∧ x0 = x0 ∧ x3 = x3 ∧ x1 = x1 ∧ (r = r ∧ t = t) ∧ p = p ∧ q = q) ∧ ((r = r ∧ t = t) ∧ x0 = x0 ∧ (r = r ∧ t = t) ∧ p = p ∧ q = q) ∧ (r = r ∧ t = t) ∧ (r = r ∧ t = t) ∧ p = p ∧ q = q) ∧ (vb2 p q = true → vbS z1 z3 z5 z6 z7 z8 z12 z14 z15 gl ∧ vbS z1 z3 z5 z6 z7 z8 z12 z14 z15 gl ∧ vbS z1 z3 z5 z6 z7 z8 z12 z14 z15 gl ∧ vbS z1 z3 z5 z6 z7 z8 z12 z14 z15 gl) ∧ (vb20 z1 z3 z5 z6 z7 z8 z14 z15 p q r t = true → (vb23 x0 = true → vbS z1 z3 z5 z6 z7 z8 z12 z14 z15 gl ∧ vbS z1 z3 z5 z6 z7 z8 z12 z14 z15 gl ∧ vbS z1 z3 z5 z6 z7 z8 z12 z14 z15 gl ∧ vbS z1 z3 z5 z6 z7 z8 z12 z14 z15 gl) ∧ (vb30 z1 z3 z5 z6 z7 z8 z14 z15 x0 x1 = true → (vb34 x0 x2 = true → vbS z1 z3 z5 z6 z7 z8 z12 z14 z15 gl ∧ vbS z1 z3 z5 z6 z7 z8 z12 z14 z15 gl ∧ vbS z1 z3 z5 z6 z7 z8 z12 z14 z15 gl ∧ vbS z1 z3 z5 z6 z7 z8 z12 z14 z15 gl) ∧ (vb43 z1 z3 z5 z6 z7 z8 z14 z15 x0 x1 x2 x3 = true → vb23 x0 = true → vbS z1 z3 z5 z6 z7 z8 z12 z14 z15 gl ∧ vbS z1 z3 z5 z6 z7 z8 z12 z14 z15 gl ∧ vbS z1 z3 z5 z6 z7 z8 z12 z14 z15 gl ∧ vbS z1 z3 z5 z6 z7 z8 z12 z14 z15 gl))))
def vbV (z0 z1 z2 z3 z4 z5 z6 z7 z8 z9 z10 z11 z12 z13 z14 z15 z16 z17 z18 z19 z20 : Int) (gl : ByteArray) (g : Nat) (n p q r t x0 x1 x2 x3 : Int) : Bool := evV (vb20 z1 z3 z5 z6 z7 z8 z14 z15 p q r t) (vb30 z1 z3 z5 z6 z7 z8 z14 z15 x0 x1) (vb43 z1 z3 z5 z6 z7 z8 z14 z15 x0 x1 x2 x3) (plc (badR (vb21 x0) (vb21 x0)) (slStT (vb6 z1 z14 z15) (vb8 z3 z14 z15) (vb9 z5) (vb10 z6) (vb11 z7) (vb12 z8) (vb21 x0) (vb21 x0) r t) (slStT (vb6 z1 z14 z15) (vb8 z3 z14 z15) (vb9 z5) (vb10 z6) (vb11 z7) (vb12 z8) (vb25 x0) (vb25 x0) r t))
def vc2 (p q : Int) : Bool := bif decide (p > q) then true else bif decide (p < (-4503599627370496 : Int)) then true else decide (q > 4503599627370496)
def vc3 (p q : Int) : Bool := !vc2 p q
def vc4 (z14 : Int) : Int := IntKind.i64.wrap (100000 * IntKind.i64.wrap z14)
def vc5 (z14 z15 : Int) : Bool := bif z15.tmod (4 : Int) == 1 then decide (vc4 z14 > 0) else false
def vc6 (z1 : Int) : Int := IntKind.i64.wrap (1000 * IntKind.i64.wrap z1)
def vc7 (z1 z14 z15 : Int) : Int := bif vc5 z14 z15 then vc6 z1 else vc6 z1
def vc8 (z3 : Int) : Int := IntKind.i64.wrap (1000 * IntKind.i64.wrap (z3.tmod 3000))
def vc9 (z3 z14 z15 : Int) : Int := bif vc5 z14 z15 then vc8 z3 else vc8 z3
def vc10 (z5 : Int) : Int := IntKind.i64.wrap (1000 * IntKind.i64.wrap z5)
def vc11 (z6 : Int) : Int := IntKind.i64.wrap (1000 * IntKind.i64.wrap z6)
def vc12 (z7 : Int) : Int := IntKind.i64.wrap (1000 * IntKind.i64.wrap z7)
def vc13 (z8 : Int) : Int := IntKind.i64.wrap (1000 * IntKind.i64.wrap z8)
def vc14 (z12 : Int) : Int := IntKind.i64.wrap (1000 * IntKind.i64.wrap (z12.tmod 20000))
def vc15 (q : Int) : Int := IntKind.i64.wrap (0 - q)
def vc16 (p : Int) : Int := IntKind.i64.wrap (0 - p)
def vc21 (z1 z3 z5 z6 z7 z8 z14 z15 p q r t : Int) : Bool := plc (badR p q) (slStT (vc7 z1 z14 z15) (vc9 z3 z14 z15) (vc10 z5) (vc11 z6) (vc12 z7) (vc13 z8) p q r t) (slStT (vc7 z1 z14 z15) (vc9 z3 z14 z15) (vc10 z5) (vc11 z6) (vc12 z7) (vc13 z8) (vc15 q) (vc16 p) r t)
def vc22 (x0 : Int) : Int := IntKind.i64.wrap (IntKind.i64.wrap x0 * 16777216)
def vc23 (x0 : Int) : Bool := bif decide (vc22 x0 > vc22 x0) then true else bif decide (vc22 x0 < (-4503599627370496 : Int)) then true else decide (vc22 x0 > 4503599627370496)
def vc24 (x0 : Int) : Bool := !vc23 x0
def vc25 (x1 : Int) : Int := IntKind.i64.wrap (IntKind.i64.wrap x1 * 16777216)
def vc26 (x0 : Int) : Int := IntKind.i64.wrap (0 - vc22 x0)
def vc31 (z1 z3 z5 z6 z7 z8 z14 z15 x0 x1 : Int) : Bool := plc (badR (vc22 x0) (vc22 x0)) (slStT (vc7 z1 z14 z15) (vc9 z3 z14 z15) (vc10 z5) (vc11 z6) (vc12 z7) (vc13 z8) (vc22 x0) (vc22 x0) (vc25 x1) (vc25 x1)) (slStT (vc7 z1 z14 z15) (vc9 z3 z14 z15) (vc10 z5) (vc11 z6) (vc12 z7) (vc13 z8) (vc26 x0) (vc26 x0) (vc25 x1) (vc25 x1))
def vc32 (x0 x2 : Int) : Int := IntKind.i64.wrap ((if IntKind.i64.wrap x2 < IntKind.i64.wrap x0 then IntKind.i64.wrap x2 else IntKind.i64.wrap x0) * 16777216)
def vc33 (x0 x2 : Int) : Int := IntKind.i64.wrap ((if IntKind.i64.wrap x2 > IntKind.i64.wrap x0 then IntKind.i64.wrap x2 else IntKind.i64.wrap x0) * 16777216)
def vc34 (x0 x2 : Int) : Bool := bif decide (vc32 x0 x2 > vc33 x0 x2) then true else bif decide (vc32 x0 x2 < (-4503599627370496 : Int)) then true else decide (vc33 x0 x2 > 4503599627370496)
def vc35 (x0 x2 : Int) : Bool := !vc34 x0 x2
def vc36 (x1 x3 : Int) : Int := IntKind.i64.wrap ((if IntKind.i64.wrap x3 < IntKind.i64.wrap x1 then IntKind.i64.wrap x3 else IntKind.i64.wrap x1) * 16777216)
def vc37 (x1 x3 : Int) : Int := IntKind.i64.wrap ((if IntKind.i64.wrap x3 > IntKind.i64.wrap x1 then IntKind.i64.wrap x3 else IntKind.i64.wrap x1) * 16777216)
def vc38 (x0 x2 : Int) : Int := IntKind.i64.wrap (0 - vc33 x0 x2)
def vc39 (x0 x2 : Int) : Int := IntKind.i64.wrap (0 - vc32 x0 x2)
def vc44 (z1 z3 z5 z6 z7 z8 z14 z15 x0 x1 x2 x3 : Int) : Bool := plc (badR (vc32 x0 x2) (vc33 x0 x2)) (slStT (vc7 z1 z14 z15) (vc9 z3 z14 z15) (vc10 z5) (vc11 z6) (vc12 z7) (vc13 z8) (vc32 x0 x2) (vc33 x0 x2) (vc36 x1 x3) (vc37 x1 x3)) (slStT (vc7 z1 z14 z15) (vc9 z3 z14 z15) (vc10 z5) (vc11 z6) (vc12 z7) (vc13 z8) (vc38 x0 x2) (vc39 x0 x2) (vc36 x1 x3) (vc37 x1 x3))
def vcS (z1 z3 z5 z6 z7 z8 z12 z14 z15 e0 : Int) (gl : ByteArray) : Prop := vStd (vc7 z1 z14 z15) (vc9 z3 z14 z15) (vc10 z5) (vc11 z6) (vc12 z7) (vc13 z8) 0 0 0 (bif vc5 z14 z15 then vc14 z12 else vc14 z12) (bif vc5 z14 z15 then gl else gl) (bif vc5 z14 z15 then vc4 z14 else vc4 z14) (bif vc5 z14 z15 then IntKind.i64.wrap ((vc4 z14).tdiv 4) else 0) ∧ inF (IntKind.i64.wrap (13000000 + IntKind.i64.wrap (50000 * IntKind.i64.wrap e0))) ((IntKind.i64.wrap e0).tmod 7) (IntKind.i64.wrap (1 + (IntKind.i64.wrap e0).tmod 5))
def vcN (z0 z1 z2 z3 z4 z5 z6 z7 z8 z9 z10 z11 z12 z13 z14 z15 z16 z17 z18 z19 z20 : Int) (gl : ByteArray) (g : Nat) (n e0 p q r t x0 x1 x2 x3 : Int) : Prop := ((((z14 = z14 ∧ z13 = z13 ∧ z12 = z12 ∧ z3 = z3 ∧ z1 = z1) ∧ (IntKind.i64.wrap z13).tmod 5 = (g : Int)) ∧ (z0.tmod (8 : Int) == 4) = true ∧ decide (0 < n) = true ∧ decide ((1 : Int) < n) = false) ∧ (((r = r ∧ t = t) ∧ x0 = x0 ∧ x3 = x3 ∧ x1 = x1 ∧ x2 = x2 ∧ x0 = x0 ∧ x1 = x1 ∧ (r = r ∧ t = t) ∧ p = p ∧ q = q) ∧ ((r = r ∧ t = t) ∧ x0 = x0 ∧ x3 = x3 ∧ x1 = x1 ∧ x2 = x2 ∧ x0 = x0 ∧ (r = r ∧ t = t) ∧ p = p ∧ q = q) ∧ ((r = r ∧ t = t) ∧ x0 = x0 ∧ x3 = x3 ∧ x1 = x1 ∧ (r = r ∧ t = t) ∧ p = p ∧ q = q) ∧ ((r = r ∧ t = t) ∧ x0 = x0 ∧ (r = r ∧ t = t) ∧ p = p ∧ q = q) ∧ (r = r ∧ t = t) ∧ (r = r ∧ t = t) ∧ p = p ∧ q = q) ∧ (vc3 p q = true → (vcS z1 z3 z5 z6 z7 z8 z12 z14 z15 e0 gl) ∧ (vcS z1 z3 z5 z6 z7 z8 z12 z14 z15 e0 gl) ∧ (vcS z1 z3 z5 z6 z7 z8 z12 z14 z15 e0 gl) ∧ vcS z1 z3 z5 z6 z7 z8 z12 z14 z15 e0 gl) ∧ (vc21 z1 z3 z5 z6 z7 z8 z14 z15 p q r t = true → (vc24 x0 = true → (vcS z1 z3 z5 z6 z7 z8 z12 z14 z15 e0 gl) ∧ (vcS z1 z3 z5 z6 z7 z8 z12 z14 z15 e0 gl) ∧ (vcS z1 z3 z5 z6 z7 z8 z12 z14 z15 e0 gl) ∧ vcS z1 z3 z5 z6 z7 z8 z12 z14 z15 e0 gl) ∧ (vc31 z1 z3 z5 z6 z7 z8 z14 z15 x0 x1 = true → (vc35 x0 x2 = true → (vcS z1 z3 z5 z6 z7 z8 z12 z14 z15 e0 gl) ∧ (vcS z1 z3 z5 z6 z7 z8 z12 z14 z15 e0 gl) ∧ (vcS z1 z3 z5 z6 z7 z8 z12 z14 z15 e0 gl) ∧ vcS z1 z3 z5 z6 z7 z8 z12 z14 z15 e0 gl) ∧ (vc44 z1 z3 z5 z6 z7 z8 z14 z15 x0 x1 x2 x3 = true → vc24 x0 = true → (vcS z1 z3 z5 z6 z7 z8 z12 z14 z15 e0 gl) ∧ (vcS z1 z3 z5 z6 z7 z8 z12 z14 z15 e0 gl) ∧ (vcS z1 z3 z5 z6 z7 z8 z12 z14 z15 e0 gl) ∧ vcS z1 z3 z5 z6 z7 z8 z12 z14 z15 e0 gl))))
def vcV (z0 z1 z2 z3 z4 z5 z6 z7 z8 z9 z10 z11 z12 z13 z14 z15 z16 z17 z18 z19 z20 : Int) (gl : ByteArray) (g : Nat) (n e0 p q r t x0 x1 x2 x3 : Int) : Bool := evV (vc21 z1 z3 z5 z6 z7 z8 z14 z15 p q r t) (vc31 z1 z3 z5 z6 z7 z8 z14 z15 x0 x1) (vc44 z1 z3 z5 z6 z7 z8 z14 z15 x0 x1 x2 x3) (plc (badR (vc22 x0) (vc22 x0)) (slStT (vc7 z1 z14 z15) (vc9 z3 z14 z15) (vc10 z5) (vc11 z6) (vc12 z7) (vc13 z8) (vc22 x0) (vc22 x0) r t) (slStT (vc7 z1 z14 z15) (vc9 z3 z14 z15) (vc10 z5) (vc11 z6) (vc12 z7) (vc13 z8) (vc26 x0) (vc26 x0) r t))
def vd3 (p q : Int) : Bool := bif decide (p > q) then true else bif decide (p < (-4503599627370496 : Int)) then true else decide (q > 4503599627370496)
def vd4 (p q : Int) : Bool := !vd3 p q
def vd5 (z14 : Int) : Int := IntKind.i64.wrap (100000 * IntKind.i64.wrap z14)
def vd6 (z14 z15 : Int) : Bool := bif z15.tmod (4 : Int) == 1 then decide (vd5 z14 > 0) else false
def vd7 (z1 : Int) : Int := IntKind.i64.wrap (1000 * IntKind.i64.wrap z1)
def vd8 (z1 z14 z15 : Int) : Int := bif vd6 z14 z15 then vd7 z1 else vd7 z1
def vd9 (z3 : Int) : Int := IntKind.i64.wrap (1000 * IntKind.i64.wrap (z3.tmod 3000))
def vd10 (z3 z14 z15 : Int) : Int := bif vd6 z14 z15 then vd9 z3 else vd9 z3
def vd11 (z5 : Int) : Int := IntKind.i64.wrap (1000 * IntKind.i64.wrap z5)
def vd12 (z6 : Int) : Int := IntKind.i64.wrap (1000 * IntKind.i64.wrap z6)
def vd13 (z7 : Int) : Int := IntKind.i64.wrap (1000 * IntKind.i64.wrap z7)
def vd14 (z8 : Int) : Int := IntKind.i64.wrap (1000 * IntKind.i64.wrap z8)
def vd15 (z12 : Int) : Int := IntKind.i64.wrap (1000 * IntKind.i64.wrap (z12.tmod 20000))
def vd16 (q : Int) : Int := IntKind.i64.wrap (0 - q)
def vd17 (p : Int) : Int := IntKind.i64.wrap (0 - p)
def vd22 (z1 z3 z5 z6 z7 z8 z14 z15 p q r t : Int) : Bool := plc (badR p q) (slStT (vd8 z1 z14 z15) (vd10 z3 z14 z15) (vd11 z5) (vd12 z6) (vd13 z7) (vd14 z8) p q r t) (slStT (vd8 z1 z14 z15) (vd10 z3 z14 z15) (vd11 z5) (vd12 z6) (vd13 z7) (vd14 z8) (vd16 q) (vd17 p) r t)
def vd23 (x0 : Int) : Int := IntKind.i64.wrap (IntKind.i64.wrap x0 * 16777216)
def vd24 (x0 : Int) : Bool := bif decide (vd23 x0 > vd23 x0) then true else bif decide (vd23 x0 < (-4503599627370496 : Int)) then true else decide (vd23 x0 > 4503599627370496)
def vd25 (x0 : Int) : Bool := !vd24 x0
def vd26 (x1 : Int) : Int := IntKind.i64.wrap (IntKind.i64.wrap x1 * 16777216)
def vd27 (x0 : Int) : Int := IntKind.i64.wrap (0 - vd23 x0)
def vd32 (z1 z3 z5 z6 z7 z8 z14 z15 x0 x1 : Int) : Bool := plc (badR (vd23 x0) (vd23 x0)) (slStT (vd8 z1 z14 z15) (vd10 z3 z14 z15) (vd11 z5) (vd12 z6) (vd13 z7) (vd14 z8) (vd23 x0) (vd23 x0) (vd26 x1) (vd26 x1)) (slStT (vd8 z1 z14 z15) (vd10 z3 z14 z15) (vd11 z5) (vd12 z6) (vd13 z7) (vd14 z8) (vd27 x0) (vd27 x0) (vd26 x1) (vd26 x1))
def vd33 (x0 x2 : Int) : Int := IntKind.i64.wrap ((if IntKind.i64.wrap x2 < IntKind.i64.wrap x0 then IntKind.i64.wrap x2 else IntKind.i64.wrap x0) * 16777216)
def vd34 (x0 x2 : Int) : Int := IntKind.i64.wrap ((if IntKind.i64.wrap x2 > IntKind.i64.wrap x0 then IntKind.i64.wrap x2 else IntKind.i64.wrap x0) * 16777216)
def vd35 (x0 x2 : Int) : Bool := bif decide (vd33 x0 x2 > vd34 x0 x2) then true else bif decide (vd33 x0 x2 < (-4503599627370496 : Int)) then true else decide (vd34 x0 x2 > 4503599627370496)
def vd36 (x0 x2 : Int) : Bool := !vd35 x0 x2
def vd37 (x1 x3 : Int) : Int := IntKind.i64.wrap ((if IntKind.i64.wrap x3 < IntKind.i64.wrap x1 then IntKind.i64.wrap x3 else IntKind.i64.wrap x1) * 16777216)
def vd38 (x1 x3 : Int) : Int := IntKind.i64.wrap ((if IntKind.i64.wrap x3 > IntKind.i64.wrap x1 then IntKind.i64.wrap x3 else IntKind.i64.wrap x1) * 16777216)
def vd39 (x0 x2 : Int) : Int := IntKind.i64.wrap (0 - vd34 x0 x2)
def vd40 (x0 x2 : Int) : Int := IntKind.i64.wrap (0 - vd33 x0 x2)
def vd45 (z1 z3 z5 z6 z7 z8 z14 z15 x0 x1 x2 x3 : Int) : Bool := plc (badR (vd33 x0 x2) (vd34 x0 x2)) (slStT (vd8 z1 z14 z15) (vd10 z3 z14 z15) (vd11 z5) (vd12 z6) (vd13 z7) (vd14 z8) (vd33 x0 x2) (vd34 x0 x2) (vd37 x1 x3) (vd38 x1 x3)) (slStT (vd8 z1 z14 z15) (vd10 z3 z14 z15) (vd11 z5) (vd12 z6) (vd13 z7) (vd14 z8) (vd39 x0 x2) (vd40 x0 x2) (vd37 x1 x3) (vd38 x1 x3))
def vdS (z1 z3 z5 z6 z7 z8 z12 z14 z15 e0 e1 : Int) (gl : ByteArray) : Prop := vStd (vd8 z1 z14 z15) (vd10 z3 z14 z15) (vd11 z5) (vd12 z6) (vd13 z7) (vd14 z8) 0 0 0 (bif vd6 z14 z15 then vd15 z12 else vd15 z12) (bif vd6 z14 z15 then gl else gl) (bif vd6 z14 z15 then vd5 z14 else vd5 z14) (bif vd6 z14 z15 then IntKind.i64.wrap ((vd5 z14).tdiv 4) else 0) ∧ inF (IntKind.i64.wrap (13000000 + IntKind.i64.wrap (50000 * IntKind.i64.wrap e0))) ((IntKind.i64.wrap e0).tmod 7) (IntKind.i64.wrap (1 + (IntKind.i64.wrap e0).tmod 5)) ∧ inF (IntKind.i64.wrap (13000000 + IntKind.i64.wrap (50000 * IntKind.i64.wrap e1))) ((IntKind.i64.wrap e1).tmod 7) (IntKind.i64.wrap (1 + (IntKind.i64.wrap e1).tmod 5))
def vdN (z0 z1 z2 z3 z4 z5 z6 z7 z8 z9 z10 z11 z12 z13 z14 z15 z16 z17 z18 z19 z20 : Int) (gl : ByteArray) (g : Nat) (n e0 e1 p q r t x0 x1 x2 x3 : Int) : Prop := ((((z14 = z14 ∧ z13 = z13 ∧ z12 = z12 ∧ z3 = z3 ∧ z1 = z1) ∧ (IntKind.i64.wrap z13).tmod 5 = (g : Int)) ∧ (z0.tmod (8 : Int) == 4) = true ∧ decide (0 < n) = true ∧ decide ((1 : Int) < n) = true ∧ decide ((2 : Int) < n) = false) ∧ (((r = r ∧ t = t) ∧ x0 = x0 ∧ x3 = x3 ∧ x1 = x1 ∧ x2 = x2 ∧ x0 = x0 ∧ x1 = x1 ∧ (r = r ∧ t = t) ∧ p = p ∧ q = q) ∧ ((r = r ∧ t = t) ∧ x0 = x0 ∧ x3 = x3 ∧ x1 = x1 ∧ x2 = x2 ∧ x0 = x0 ∧ (r = r ∧ t = t) ∧ p = p ∧ q = q) ∧ ((r = r ∧ t = t) ∧ x0 = x0 ∧ x3 = x3 ∧ x1 = x1 ∧ (r = r ∧ t = t) ∧ p = p ∧ q = q) ∧ ((r = r ∧ t = t) ∧ x0 = x0 ∧ (r = r ∧ t = t) ∧ p = p ∧ q = q) ∧ (r = r ∧ t = t) ∧ (r = r ∧ t = t) ∧ p = p ∧ q = q) ∧ (vd4 p q = true → (vdS z1 z3 z5 z6 z7 z8 z12 z14 z15 e0 e1 gl) ∧ (vdS z1 z3 z5 z6 z7 z8 z12 z14 z15 e0 e1 gl) ∧ (vdS z1 z3 z5 z6 z7 z8 z12 z14 z15 e0 e1 gl) ∧ vdS z1 z3 z5 z6 z7 z8 z12 z14 z15 e0 e1 gl) ∧ (vd22 z1 z3 z5 z6 z7 z8 z14 z15 p q r t = true → (vd25 x0 = true → (vdS z1 z3 z5 z6 z7 z8 z12 z14 z15 e0 e1 gl) ∧ (vdS z1 z3 z5 z6 z7 z8 z12 z14 z15 e0 e1 gl) ∧ (vdS z1 z3 z5 z6 z7 z8 z12 z14 z15 e0 e1 gl) ∧ vdS z1 z3 z5 z6 z7 z8 z12 z14 z15 e0 e1 gl) ∧ (vd32 z1 z3 z5 z6 z7 z8 z14 z15 x0 x1 = true → (vd36 x0 x2 = true → (vdS z1 z3 z5 z6 z7 z8 z12 z14 z15 e0 e1 gl) ∧ (vdS z1 z3 z5 z6 z7 z8 z12 z14 z15 e0 e1 gl) ∧ (vdS z1 z3 z5 z6 z7 z8 z12 z14 z15 e0 e1 gl) ∧ vdS z1 z3 z5 z6 z7 z8 z12 z14 z15 e0 e1 gl) ∧ (vd45 z1 z3 z5 z6 z7 z8 z14 z15 x0 x1 x2 x3 = true → vd25 x0 = true → (vdS z1 z3 z5 z6 z7 z8 z12 z14 z15 e0 e1 gl) ∧ (vdS z1 z3 z5 z6 z7 z8 z12 z14 z15 e0 e1 gl) ∧ (vdS z1 z3 z5 z6 z7 z8 z12 z14 z15 e0 e1 gl) ∧ vdS z1 z3 z5 z6 z7 z8 z12 z14 z15 e0 e1 gl))))
def vdV (z0 z1 z2 z3 z4 z5 z6 z7 z8 z9 z10 z11 z12 z13 z14 z15 z16 z17 z18 z19 z20 : Int) (gl : ByteArray) (g : Nat) (n e0 e1 p q r t x0 x1 x2 x3 : Int) : Bool := evV (vd22 z1 z3 z5 z6 z7 z8 z14 z15 p q r t) (vd32 z1 z3 z5 z6 z7 z8 z14 z15 x0 x1) (vd45 z1 z3 z5 z6 z7 z8 z14 z15 x0 x1 x2 x3) (plc (badR (vd23 x0) (vd23 x0)) (slStT (vd8 z1 z14 z15) (vd10 z3 z14 z15) (vd11 z5) (vd12 z6) (vd13 z7) (vd14 z8) (vd23 x0) (vd23 x0) r t) (slStT (vd8 z1 z14 z15) (vd10 z3 z14 z15) (vd11 z5) (vd12 z6) (vd13 z7) (vd14 z8) (vd27 x0) (vd27 x0) r t))
def ve3 (p q : Int) : Bool := bif decide (p > q) then true else bif decide (p < (-4503599627370496 : Int)) then true else decide (q > 4503599627370496)
def ve4 (p q : Int) : Bool := !ve3 p q
def ve5 (z14 : Int) : Int := IntKind.i64.wrap (100000 * IntKind.i64.wrap z14)
def ve6 (z14 z15 : Int) : Bool := bif z15.tmod (4 : Int) == 1 then decide (ve5 z14 > 0) else false
def ve7 (z1 : Int) : Int := IntKind.i64.wrap (1000 * IntKind.i64.wrap z1)
def ve8 (z1 z14 z15 : Int) : Int := bif ve6 z14 z15 then ve7 z1 else ve7 z1
def ve9 (z3 : Int) : Int := IntKind.i64.wrap (1000 * IntKind.i64.wrap (z3.tmod 3000))
def ve10 (z3 z14 z15 : Int) : Int := bif ve6 z14 z15 then ve9 z3 else ve9 z3
def ve11 (z5 : Int) : Int := IntKind.i64.wrap (1000 * IntKind.i64.wrap z5)
def ve12 (z6 : Int) : Int := IntKind.i64.wrap (1000 * IntKind.i64.wrap z6)
def ve13 (z7 : Int) : Int := IntKind.i64.wrap (1000 * IntKind.i64.wrap z7)
def ve14 (z8 : Int) : Int := IntKind.i64.wrap (1000 * IntKind.i64.wrap z8)
def ve15 (z12 : Int) : Int := IntKind.i64.wrap (1000 * IntKind.i64.wrap (z12.tmod 20000))
def ve16 (q : Int) : Int := IntKind.i64.wrap (0 - q)
def ve17 (p : Int) : Int := IntKind.i64.wrap (0 - p)
def ve22 (z1 z3 z5 z6 z7 z8 z14 z15 p q r t : Int) : Bool := plc (badR p q) (slStT (ve8 z1 z14 z15) (ve10 z3 z14 z15) (ve11 z5) (ve12 z6) (ve13 z7) (ve14 z8) p q r t) (slStT (ve8 z1 z14 z15) (ve10 z3 z14 z15) (ve11 z5) (ve12 z6) (ve13 z7) (ve14 z8) (ve16 q) (ve17 p) r t)
def ve23 (x0 : Int) : Int := IntKind.i64.wrap (IntKind.i64.wrap x0 * 16777216)
def ve24 (x0 : Int) : Bool := bif decide (ve23 x0 > ve23 x0) then true else bif decide (ve23 x0 < (-4503599627370496 : Int)) then true else decide (ve23 x0 > 4503599627370496)
def ve25 (x0 : Int) : Bool := !ve24 x0
def ve26 (x1 : Int) : Int := IntKind.i64.wrap (IntKind.i64.wrap x1 * 16777216)
def ve27 (x0 : Int) : Int := IntKind.i64.wrap (0 - ve23 x0)
def ve32 (z1 z3 z5 z6 z7 z8 z14 z15 x0 x1 : Int) : Bool := plc (badR (ve23 x0) (ve23 x0)) (slStT (ve8 z1 z14 z15) (ve10 z3 z14 z15) (ve11 z5) (ve12 z6) (ve13 z7) (ve14 z8) (ve23 x0) (ve23 x0) (ve26 x1) (ve26 x1)) (slStT (ve8 z1 z14 z15) (ve10 z3 z14 z15) (ve11 z5) (ve12 z6) (ve13 z7) (ve14 z8) (ve27 x0) (ve27 x0) (ve26 x1) (ve26 x1))
def ve33 (x0 x2 : Int) : Int := IntKind.i64.wrap ((if IntKind.i64.wrap x2 < IntKind.i64.wrap x0 then IntKind.i64.wrap x2 else IntKind.i64.wrap x0) * 16777216)
def ve34 (x0 x2 : Int) : Int := IntKind.i64.wrap ((if IntKind.i64.wrap x2 > IntKind.i64.wrap x0 then IntKind.i64.wrap x2 else IntKind.i64.wrap x0) * 16777216)
def ve35 (x0 x2 : Int) : Bool := bif decide (ve33 x0 x2 > ve34 x0 x2) then true else bif decide (ve33 x0 x2 < (-4503599627370496 : Int)) then true else decide (ve34 x0 x2 > 4503599627370496)
def ve36 (x0 x2 : Int) : Bool := !ve35 x0 x2
def ve37 (x1 x3 : Int) : Int := IntKind.i64.wrap ((if IntKind.i64.wrap x3 < IntKind.i64.wrap x1 then IntKind.i64.wrap x3 else IntKind.i64.wrap x1) * 16777216)
def ve38 (x1 x3 : Int) : Int := IntKind.i64.wrap ((if IntKind.i64.wrap x3 > IntKind.i64.wrap x1 then IntKind.i64.wrap x3 else IntKind.i64.wrap x1) * 16777216)
def ve39 (x0 x2 : Int) : Int := IntKind.i64.wrap (0 - ve34 x0 x2)
def ve40 (x0 x2 : Int) : Int := IntKind.i64.wrap (0 - ve33 x0 x2)
def ve45 (z1 z3 z5 z6 z7 z8 z14 z15 x0 x1 x2 x3 : Int) : Bool := plc (badR (ve33 x0 x2) (ve34 x0 x2)) (slStT (ve8 z1 z14 z15) (ve10 z3 z14 z15) (ve11 z5) (ve12 z6) (ve13 z7) (ve14 z8) (ve33 x0 x2) (ve34 x0 x2) (ve37 x1 x3) (ve38 x1 x3)) (slStT (ve8 z1 z14 z15) (ve10 z3 z14 z15) (ve11 z5) (ve12 z6) (ve13 z7) (ve14 z8) (ve39 x0 x2) (ve40 x0 x2) (ve37 x1 x3) (ve38 x1 x3))
def veS (z1 z3 z5 z6 z7 z8 z12 z14 z15 e0 e1 e2 : Int) (gl : ByteArray) : Prop := vStd (ve8 z1 z14 z15) (ve10 z3 z14 z15) (ve11 z5) (ve12 z6) (ve13 z7) (ve14 z8) 0 0 0 (bif ve6 z14 z15 then ve15 z12 else ve15 z12) (bif ve6 z14 z15 then gl else gl) (bif ve6 z14 z15 then ve5 z14 else ve5 z14) (bif ve6 z14 z15 then IntKind.i64.wrap ((ve5 z14).tdiv 4) else 0) ∧ inF (IntKind.i64.wrap (13000000 + IntKind.i64.wrap (50000 * IntKind.i64.wrap e0))) ((IntKind.i64.wrap e0).tmod 7) (IntKind.i64.wrap (1 + (IntKind.i64.wrap e0).tmod 5)) ∧ inF (IntKind.i64.wrap (13000000 + IntKind.i64.wrap (50000 * IntKind.i64.wrap e1))) ((IntKind.i64.wrap e1).tmod 7) (IntKind.i64.wrap (1 + (IntKind.i64.wrap e1).tmod 5)) ∧ inF (IntKind.i64.wrap (13000000 + IntKind.i64.wrap (50000 * IntKind.i64.wrap e2))) ((IntKind.i64.wrap e2).tmod 7) (IntKind.i64.wrap (1 + (IntKind.i64.wrap e2).tmod 5))
def veN (z0 z1 z2 z3 z4 z5 z6 z7 z8 z9 z10 z11 z12 z13 z14 z15 z16 z17 z18 z19 z20 : Int) (gl : ByteArray) (g : Nat) (n e0 e1 e2 p q r t x0 x1 x2 x3 : Int) : Prop := ((((z14 = z14 ∧ z13 = z13 ∧ z12 = z12 ∧ z3 = z3 ∧ z1 = z1) ∧ (IntKind.i64.wrap z13).tmod 5 = (g : Int)) ∧ (z0.tmod (8 : Int) == 4) = true ∧ decide (0 < n) = true ∧ decide ((1 : Int) < n) = true ∧ decide ((2 : Int) < n) = true) ∧ (((r = r ∧ t = t) ∧ x0 = x0 ∧ x3 = x3 ∧ x1 = x1 ∧ x2 = x2 ∧ x0 = x0 ∧ x1 = x1 ∧ (r = r ∧ t = t) ∧ p = p ∧ q = q) ∧ ((r = r ∧ t = t) ∧ x0 = x0 ∧ x3 = x3 ∧ x1 = x1 ∧ x2 = x2 ∧ x0 = x0 ∧ (r = r ∧ t = t) ∧ p = p ∧ q = q) ∧ ((r = r ∧ t = t) ∧ x0 = x0 ∧ x3 = x3 ∧ x1 = x1 ∧ (r = r ∧ t = t) ∧ p = p ∧ q = q) ∧ ((r = r ∧ t = t) ∧ x0 = x0 ∧ (r = r ∧ t = t) ∧ p = p ∧ q = q) ∧ (r = r ∧ t = t) ∧ (r = r ∧ t = t) ∧ p = p ∧ q = q) ∧ (ve4 p q = true → (veS z1 z3 z5 z6 z7 z8 z12 z14 z15 e0 e1 e2 gl) ∧ (veS z1 z3 z5 z6 z7 z8 z12 z14 z15 e0 e1 e2 gl) ∧ (veS z1 z3 z5 z6 z7 z8 z12 z14 z15 e0 e1 e2 gl) ∧ veS z1 z3 z5 z6 z7 z8 z12 z14 z15 e0 e1 e2 gl) ∧ (ve22 z1 z3 z5 z6 z7 z8 z14 z15 p q r t = true → (ve25 x0 = true → (veS z1 z3 z5 z6 z7 z8 z12 z14 z15 e0 e1 e2 gl) ∧ (veS z1 z3 z5 z6 z7 z8 z12 z14 z15 e0 e1 e2 gl) ∧ (veS z1 z3 z5 z6 z7 z8 z12 z14 z15 e0 e1 e2 gl) ∧ veS z1 z3 z5 z6 z7 z8 z12 z14 z15 e0 e1 e2 gl) ∧ (ve32 z1 z3 z5 z6 z7 z8 z14 z15 x0 x1 = true → (ve36 x0 x2 = true → (veS z1 z3 z5 z6 z7 z8 z12 z14 z15 e0 e1 e2 gl) ∧ (veS z1 z3 z5 z6 z7 z8 z12 z14 z15 e0 e1 e2 gl) ∧ (veS z1 z3 z5 z6 z7 z8 z12 z14 z15 e0 e1 e2 gl) ∧ veS z1 z3 z5 z6 z7 z8 z12 z14 z15 e0 e1 e2 gl) ∧ (ve45 z1 z3 z5 z6 z7 z8 z14 z15 x0 x1 x2 x3 = true → ve25 x0 = true → (veS z1 z3 z5 z6 z7 z8 z12 z14 z15 e0 e1 e2 gl) ∧ (veS z1 z3 z5 z6 z7 z8 z12 z14 z15 e0 e1 e2 gl) ∧ (veS z1 z3 z5 z6 z7 z8 z12 z14 z15 e0 e1 e2 gl) ∧ veS z1 z3 z5 z6 z7 z8 z12 z14 z15 e0 e1 e2 gl))))
def veV (z0 z1 z2 z3 z4 z5 z6 z7 z8 z9 z10 z11 z12 z13 z14 z15 z16 z17 z18 z19 z20 : Int) (gl : ByteArray) (g : Nat) (n e0 e1 e2 p q r t x0 x1 x2 x3 : Int) : Bool := evV (ve22 z1 z3 z5 z6 z7 z8 z14 z15 p q r t) (ve32 z1 z3 z5 z6 z7 z8 z14 z15 x0 x1) (ve45 z1 z3 z5 z6 z7 z8 z14 z15 x0 x1 x2 x3) (plc (badR (ve23 x0) (ve23 x0)) (slStT (ve8 z1 z14 z15) (ve10 z3 z14 z15) (ve11 z5) (ve12 z6) (ve13 z7) (ve14 z8) (ve23 x0) (ve23 x0) r t) (slStT (ve8 z1 z14 z15) (ve10 z3 z14 z15) (ve11 z5) (ve12 z6) (ve13 z7) (ve14 z8) (ve27 x0) (ve27 x0) r t))
def vf1 (p q : Int) : Bool := bif decide (p > q) then true else bif decide (p < (-4503599627370496 : Int)) then true else decide (q > 4503599627370496)
def vf2 (p q : Int) : Bool := !vf1 p q
def vf3 (z14 : Int) : Int := IntKind.i64.wrap (100000 * IntKind.i64.wrap z14)
def vf4 (z14 z15 : Int) : Bool := bif z15.tmod (4 : Int) == 1 then decide (vf3 z14 > 0) else false
def vf5 (z1 : Int) : Int := IntKind.i64.wrap (1000 * IntKind.i64.wrap z1)
def vf6 (z1 z14 z15 : Int) : Int := bif vf4 z14 z15 then vf5 z1 else vf5 z1
def vf7 (z3 : Int) : Int := IntKind.i64.wrap (1000 * IntKind.i64.wrap (z3.tmod 3000))
def vf8 (z3 z14 z15 : Int) : Int := bif vf4 z14 z15 then vf7 z3 else vf7 z3
def vf9 (z2 : Int) : Int := IntKind.i64.wrap (1000 * IntKind.i64.wrap z2)
def vf10 (z4 : Int) : Int := IntKind.i64.wrap (1000 * IntKind.i64.wrap (z4.tmod 3000))
def vf11 (z12 : Int) : Int := IntKind.i64.wrap (1000 * IntKind.i64.wrap (z12.tmod 20000))
def vf12 (q : Int) : Int := IntKind.i64.wrap (0 - q)
def vf13 (p : Int) : Int := IntKind.i64.wrap (0 - p)
def vf18 (z1 z2 z3 z4 z14 z15 p q r t : Int) : Bool := plc (badR p q) (slBiT (vf6 z1 z14 z15) (vf8 z3 z14 z15) (vf9 z2) (vf10 z4) p q r t) (slBiT (vf6 z1 z14 z15) (vf8 z3 z14 z15) (vf9 z2) (vf10 z4) (vf12 q) (vf13 p) r t)
def vf19 (x0 : Int) : Int := IntKind.i64.wrap (IntKind.i64.wrap x0 * 16777216)
def vf20 (x0 : Int) : Bool := bif decide (vf19 x0 > vf19 x0) then true else bif decide (vf19 x0 < (-4503599627370496 : Int)) then true else decide (vf19 x0 > 4503599627370496)
def vf21 (x0 : Int) : Bool := !vf20 x0
def vf22 (x1 : Int) : Int := IntKind.i64.wrap (IntKind.i64.wrap x1 * 16777216)
def vf23 (x0 : Int) : Int := IntKind.i64.wrap (0 - vf19 x0)
def vf28 (z1 z2 z3 z4 z14 z15 x0 x1 : Int) : Bool := plc (badR (vf19 x0) (vf19 x0)) (slBiT (vf6 z1 z14 z15) (vf8 z3 z14 z15) (vf9 z2) (vf10 z4) (vf19 x0) (vf19 x0) (vf22 x1) (vf22 x1)) (slBiT (vf6 z1 z14 z15) (vf8 z3 z14 z15) (vf9 z2) (vf10 z4) (vf23 x0) (vf23 x0) (vf22 x1) (vf22 x1))
def vf29 (x0 x2 : Int) : Int := IntKind.i64.wrap ((if IntKind.i64.wrap x2 < IntKind.i64.wrap x0 then IntKind.i64.wrap x2 else IntKind.i64.wrap x0) * 16777216)
def vf30 (x0 x2 : Int) : Int := IntKind.i64.wrap ((if IntKind.i64.wrap x2 > IntKind.i64.wrap x0 then IntKind.i64.wrap x2 else IntKind.i64.wrap x0) * 16777216)
def vf31 (x0 x2 : Int) : Bool := bif decide (vf29 x0 x2 > vf30 x0 x2) then true else bif decide (vf29 x0 x2 < (-4503599627370496 : Int)) then true else decide (vf30 x0 x2 > 4503599627370496)
def vf32 (x0 x2 : Int) : Bool := !vf31 x0 x2
def vf33 (x1 x3 : Int) : Int := IntKind.i64.wrap ((if IntKind.i64.wrap x3 < IntKind.i64.wrap x1 then IntKind.i64.wrap x3 else IntKind.i64.wrap x1) * 16777216)
def vf34 (x1 x3 : Int) : Int := IntKind.i64.wrap ((if IntKind.i64.wrap x3 > IntKind.i64.wrap x1 then IntKind.i64.wrap x3 else IntKind.i64.wrap x1) * 16777216)
def vf35 (x0 x2 : Int) : Int := IntKind.i64.wrap (0 - vf30 x0 x2)
def vf36 (x0 x2 : Int) : Int := IntKind.i64.wrap (0 - vf29 x0 x2)
def vf41 (z1 z2 z3 z4 z14 z15 x0 x1 x2 x3 : Int) : Bool := plc (badR (vf29 x0 x2) (vf30 x0 x2)) (slBiT (vf6 z1 z14 z15) (vf8 z3 z14 z15) (vf9 z2) (vf10 z4) (vf29 x0 x2) (vf30 x0 x2) (vf33 x1 x3) (vf34 x1 x3)) (slBiT (vf6 z1 z14 z15) (vf8 z3 z14 z15) (vf9 z2) (vf10 z4) (vf35 x0 x2) (vf36 x0 x2) (vf33 x1 x3) (vf34 x1 x3))
def vfS (z1 z2 z3 z4 z12 z14 z15 : Int) (gl : ByteArray) : Prop := vBic (vf6 z1 z14 z15) (vf8 z3 z14 z15) (vf9 z2) (vf10 z4) (bif vf4 z14 z15 then vf11 z12 else vf11 z12) (bif vf4 z14 z15 then gl else gl) (bif vf4 z14 z15 then vf3 z14 else vf3 z14) (bif vf4 z14 z15 then IntKind.i64.wrap ((vf3 z14).tdiv 4) else 0)
def vfN (z0 z1 z2 z3 z4 z5 z6 z7 z8 z9 z10 z11 z12 z13 z14 z15 z16 z17 z18 z19 z20 : Int) (gl : ByteArray) (g : Nat) (n p q r t x0 x1 x2 x3 : Int) : Prop := ((((z14 = z14 ∧ z13 = z13 ∧ z12 = z12 ∧ z3 = z3 ∧ z1 = z1) ∧ (IntKind.i64.wrap z13).tmod 5 = (g : Int)) ∧ (z0.tmod (8 : Int) == 4) = false ∧ (z0.tmod (8 : Int) == 5) = true) ∧ (((r = r ∧ t = t) ∧ x0 = x0 ∧ x3 = x3 ∧ x1 = x1 ∧ x2 = x2 ∧ x0 = x0 ∧ x1 = x1 ∧ (r = r ∧ t = t) ∧ p = p ∧ q = q) ∧ ((r = r ∧ t = t) ∧ x0 = x0 ∧ x3 = x3 ∧ x1 = x1 ∧ x2 = x2 ∧ x0 = x0 ∧ (r = r ∧ t = t) ∧ p = p ∧ q = q) ∧ ((r = r ∧ t = t) ∧ x0 = x0 ∧ x3 = x3 ∧ x1 = x1 ∧ (r = r ∧ t = t) ∧ p = p ∧ q = q) ∧ ((r = r ∧ t = t) ∧ x0 = x0 ∧ (r = r ∧ t = t) ∧ p = p ∧ q = q) ∧ (r = r ∧ t = t) ∧ (r = r ∧ t = t) ∧ p = p ∧ q = q) ∧ (vf2 p q = true → vfS z1 z2 z3 z4 z12 z14 z15 gl ∧ vfS z1 z2 z3 z4 z12 z14 z15 gl ∧ vfS z1 z2 z3 z4 z12 z14 z15 gl ∧ vfS z1 z2 z3 z4 z12 z14 z15 gl) ∧ (vf18 z1 z2 z3 z4 z14 z15 p q r t = true → (vf21 x0 = true → vfS z1 z2 z3 z4 z12 z14 z15 gl ∧ vfS z1 z2 z3 z4 z12 z14 z15 gl ∧ vfS z1 z2 z3 z4 z12 z14 z15 gl ∧ vfS z1 z2 z3 z4 z12 z14 z15 gl) ∧ (vf28 z1 z2 z3 z4 z14 z15 x0 x1 = true → (vf32 x0 x2 = true → vfS z1 z2 z3 z4 z12 z14 z15 gl ∧ vfS z1 z2 z3 z4 z12 z14 z15 gl ∧ vfS z1 z2 z3 z4 z12 z14 z15 gl ∧ vfS z1 z2 z3 z4 z12 z14 z15 gl) ∧ (vf41 z1 z2 z3 z4 z14 z15 x0 x1 x2 x3 = true → vf21 x0 = true → vfS z1 z2 z3 z4 z12 z14 z15 gl ∧ vfS z1 z2 z3 z4 z12 z14 z15 gl ∧ vfS z1 z2 z3 z4 z12 z14 z15 gl ∧ vfS z1 z2 z3 z4 z12 z14 z15 gl))))
def vfV (z0 z1 z2 z3 z4 z5 z6 z7 z8 z9 z10 z11 z12 z13 z14 z15 z16 z17 z18 z19 z20 : Int) (gl : ByteArray) (g : Nat) (n p q r t x0 x1 x2 x3 : Int) : Bool := evV (vf18 z1 z2 z3 z4 z14 z15 p q r t) (vf28 z1 z2 z3 z4 z14 z15 x0 x1) (vf41 z1 z2 z3 z4 z14 z15 x0 x1 x2 x3) (plc (badR (vf19 x0) (vf19 x0)) (slBiT (vf6 z1 z14 z15) (vf8 z3 z14 z15) (vf9 z2) (vf10 z4) (vf19 x0) (vf19 x0) r t) (slBiT (vf6 z1 z14 z15) (vf8 z3 z14 z15) (vf9 z2) (vf10 z4) (vf23 x0) (vf23 x0) r t))
def vg1 (z14 : Int) : Int := IntKind.i64.wrap (100000 * IntKind.i64.wrap z14)
def vg2 (z12 : Int) : Int := IntKind.i64.wrap (1000 * IntKind.i64.wrap (z12.tmod 20000))
def vg3 (x0 : Int) : Int := IntKind.i64.wrap (IntKind.i64.wrap x0 * 16777216)
def vg4 (x0 x2 : Int) : Int := IntKind.i64.wrap ((if IntKind.i64.wrap x2 < IntKind.i64.wrap x0 then IntKind.i64.wrap x2 else IntKind.i64.wrap x0) * 16777216)
def vg5 (x0 x2 : Int) : Int := IntKind.i64.wrap ((if IntKind.i64.wrap x2 > IntKind.i64.wrap x0 then IntKind.i64.wrap x2 else IntKind.i64.wrap x0) * 16777216)
def vgS (z12 z14 z15 z16 z17 z18 z19 z20 : Int) : Prop := vBrk (bif bif z15.tmod (4 : Int) == 1 then decide (vg1 z14 > 0) else false then vg2 z12 else vg2 z12) (IntKind.i64.wrap (10000 * IntKind.i64.wrap z16)) (IntKind.i64.wrap (10000 * IntKind.i64.wrap z17)) (IntKind.i64.wrap (100000 * IntKind.i64.wrap z18)) (IntKind.i64.wrap (100000 * IntKind.i64.wrap z19)) (IntKind.i64.wrap (100000 * IntKind.i64.wrap z20))
def vgN (z0 z1 z2 z3 z4 z5 z6 z7 z8 z9 z10 z11 z12 z13 z14 z15 z16 z17 z18 z19 z20 : Int) (gl : ByteArray) (g : Nat) (n p q r t x0 x1 x2 x3 : Int) : Prop := ((((z14 = z14 ∧ z13 = z13 ∧ z12 = z12 ∧ z3 = z3 ∧ z1 = z1) ∧ (IntKind.i64.wrap z13).tmod 5 = (g : Int)) ∧ (z0.tmod (8 : Int) == 4) = false ∧ (z0.tmod (8 : Int) == 5) = false ∧ (z0.tmod (8 : Int) == 6) = true) ∧ (((r = r ∧ t = t) ∧ x0 = x0 ∧ x3 = x3 ∧ x1 = x1 ∧ x2 = x2 ∧ x0 = x0 ∧ x1 = x1 ∧ (r = r ∧ t = t) ∧ p = p ∧ q = q) ∧ ((r = r ∧ t = t) ∧ x0 = x0 ∧ x3 = x3 ∧ x1 = x1 ∧ x2 = x2 ∧ x0 = x0 ∧ (r = r ∧ t = t) ∧ p = p ∧ q = q) ∧ ((r = r ∧ t = t) ∧ x0 = x0 ∧ x3 = x3 ∧ x1 = x1 ∧ (r = r ∧ t = t) ∧ p = p ∧ q = q) ∧ ((r = r ∧ t = t) ∧ x0 = x0 ∧ (r = r ∧ t = t) ∧ p = p ∧ q = q) ∧ (r = r ∧ t = t) ∧ (r = r ∧ t = t) ∧ p = p ∧ q = q) ∧ ((!bif decide (p > q) then true else bif decide (p < (-4503599627370496 : Int)) then true else decide (q > 4503599627370496)) = true → vgS z12 z14 z15 z16 z17 z18 z19 z20 ∧ vgS z12 z14 z15 z16 z17 z18 z19 z20 ∧ vgS z12 z14 z15 z16 z17 z18 z19 z20 ∧ vgS z12 z14 z15 z16 z17 z18 z19 z20) ∧ ((!bif decide (vg3 x0 > vg3 x0) then true else bif decide (vg3 x0 < (-4503599627370496 : Int)) then true else decide (vg3 x0 > 4503599627370496)) = true → vgS z12 z14 z15 z16 z17 z18 z19 z20 ∧ vgS z12 z14 z15 z16 z17 z18 z19 z20 ∧ vgS z12 z14 z15 z16 z17 z18 z19 z20 ∧ vgS z12 z14 z15 z16 z17 z18 z19 z20) ∧ ((!bif decide (vg4 x0 x2 > vg5 x0 x2) then true else bif decide (vg4 x0 x2 < (-4503599627370496 : Int)) then true else decide (vg5 x0 x2 > 4503599627370496)) = true → vgS z12 z14 z15 z16 z17 z18 z19 z20 ∧ vgS z12 z14 z15 z16 z17 z18 z19 z20 ∧ vgS z12 z14 z15 z16 z17 z18 z19 z20 ∧ vgS z12 z14 z15 z16 z17 z18 z19 z20) ∧ ((!bif decide (vg3 x0 > vg3 x0) then true else bif decide (vg3 x0 < (-4503599627370496 : Int)) then true else decide (vg3 x0 > 4503599627370496)) = true → vgS z12 z14 z15 z16 z17 z18 z19 z20 ∧ vgS z12 z14 z15 z16 z17 z18 z19 z20 ∧ vgS z12 z14 z15 z16 z17 z18 z19 z20 ∧ vgS z12 z14 z15 z16 z17 z18 z19 z20))
def vh1 (p q : Int) : Bool := bif decide (p > q) then true else bif decide (p < (-4503599627370496 : Int)) then true else decide (q > 4503599627370496)
def vh2 (p q : Int) : Bool := !vh1 p q
def vh3 (z14 : Int) : Int := IntKind.i64.wrap (100000 * IntKind.i64.wrap z14)
def vh4 (z1 : Int) : Int := IntKind.i64.wrap (1000 * IntKind.i64.wrap z1)
def vh5 (z12 : Int) : Int := IntKind.i64.wrap (1000 * IntKind.i64.wrap (z12.tmod 20000))
def vh10 (p q r t : Int) : Bool := plc (badR p q) (slIdT p q r t) (slIdT (IntKind.i64.wrap (0 - q)) (IntKind.i64.wrap (0 - p)) r t)
def vh11 (x0 : Int) : Int := IntKind.i64.wrap (IntKind.i64.wrap x0 * 16777216)
def vh12 (x0 : Int) : Bool := bif decide (vh11 x0 > vh11 x0) then true else bif decide (vh11 x0 < (-4503599627370496 : Int)) then true else decide (vh11 x0 > 4503599627370496)
def vh13 (x0 : Int) : Bool := !vh12 x0
def vh14 (x1 : Int) : Int := IntKind.i64.wrap (IntKind.i64.wrap x1 * 16777216)
def vh15 (x0 : Int) : Int := IntKind.i64.wrap (0 - vh11 x0)
def vh20 (x0 x1 : Int) : Bool := plc (badR (vh11 x0) (vh11 x0)) (slIdT (vh11 x0) (vh11 x0) (vh14 x1) (vh14 x1)) (slIdT (vh15 x0) (vh15 x0) (vh14 x1) (vh14 x1))
def vh21 (x0 x2 : Int) : Int := IntKind.i64.wrap ((if IntKind.i64.wrap x2 < IntKind.i64.wrap x0 then IntKind.i64.wrap x2 else IntKind.i64.wrap x0) * 16777216)
def vh22 (x0 x2 : Int) : Int := IntKind.i64.wrap ((if IntKind.i64.wrap x2 > IntKind.i64.wrap x0 then IntKind.i64.wrap x2 else IntKind.i64.wrap x0) * 16777216)
def vh23 (x0 x2 : Int) : Bool := bif decide (vh21 x0 x2 > vh22 x0 x2) then true else bif decide (vh21 x0 x2 < (-4503599627370496 : Int)) then true else decide (vh22 x0 x2 > 4503599627370496)
def vh24 (x0 x2 : Int) : Bool := !vh23 x0 x2
def vh25 (x1 x3 : Int) : Int := IntKind.i64.wrap ((if IntKind.i64.wrap x3 < IntKind.i64.wrap x1 then IntKind.i64.wrap x3 else IntKind.i64.wrap x1) * 16777216)
def vh26 (x1 x3 : Int) : Int := IntKind.i64.wrap ((if IntKind.i64.wrap x3 > IntKind.i64.wrap x1 then IntKind.i64.wrap x3 else IntKind.i64.wrap x1) * 16777216)
def vh31 (x0 x1 x2 x3 : Int) : Bool := plc (badR (vh21 x0 x2) (vh22 x0 x2)) (slIdT (vh21 x0 x2) (vh22 x0 x2) (vh25 x1 x3) (vh26 x1 x3)) (slIdT (IntKind.i64.wrap (0 - vh22 x0 x2)) (IntKind.i64.wrap (0 - vh21 x0 x2)) (vh25 x1 x3) (vh26 x1 x3))
def vhS (z1 z12 z14 z15 : Int) : Prop := vIdl (bif bif z15.tmod (4 : Int) == 1 then decide (vh3 z14 > 0) else false then vh4 z1 else vh4 z1) (bif bif z15.tmod (4 : Int) == 1 then decide (vh3 z14 > 0) else false then vh5 z12 else vh5 z12) (bif bif z15.tmod (4 : Int) == 1 then decide (vh3 z14 > 0) else false then vh3 z14 else vh3 z14) (bif bif z15.tmod (4 : Int) == 1 then decide (vh3 z14 > 0) else false then IntKind.i64.wrap ((vh3 z14).tdiv 4) else 0)
def vhN (z0 z1 z2 z3 z4 z5 z6 z7 z8 z9 z10 z11 z12 z13 z14 z15 z16 z17 z18 z19 z20 : Int) (gl : ByteArray) (g : Nat) (n p q r t x0 x1 x2 x3 : Int) : Prop := ((((z14 = z14 ∧ z13 = z13 ∧ z12 = z12 ∧ z3 = z3 ∧ z1 = z1) ∧ (IntKind.i64.wrap z13).tmod 5 = (g : Int)) ∧ (z0.tmod (8 : Int) == 4) = false ∧ (z0.tmod (8 : Int) == 5) = false ∧ (z0.tmod (8 : Int) == 6) = false ∧ (z0.tmod (8 : Int) == 7) = true ∧ (z11.tmod (2 : Int) == 0) = true) ∧ (((r = r ∧ t = t) ∧ x0 = x0 ∧ x3 = x3 ∧ x1 = x1 ∧ x2 = x2 ∧ x0 = x0 ∧ x1 = x1 ∧ (r = r ∧ t = t) ∧ p = p ∧ q = q) ∧ ((r = r ∧ t = t) ∧ x0 = x0 ∧ x3 = x3 ∧ x1 = x1 ∧ x2 = x2 ∧ x0 = x0 ∧ (r = r ∧ t = t) ∧ p = p ∧ q = q) ∧ ((r = r ∧ t = t) ∧ x0 = x0 ∧ x3 = x3 ∧ x1 = x1 ∧ (r = r ∧ t = t) ∧ p = p ∧ q = q) ∧ ((r = r ∧ t = t) ∧ x0 = x0 ∧ (r = r ∧ t = t) ∧ p = p ∧ q = q) ∧ (r = r ∧ t = t) ∧ (r = r ∧ t = t) ∧ p = p ∧ q = q) ∧ (vh2 p q = true → vhS z1 z12 z14 z15 ∧ vhS z1 z12 z14 z15 ∧ vhS z1 z12 z14 z15 ∧ vhS z1 z12 z14 z15) ∧ (vh10 p q r t = true → (vh13 x0 = true → vhS z1 z12 z14 z15 ∧ vhS z1 z12 z14 z15 ∧ vhS z1 z12 z14 z15 ∧ vhS z1 z12 z14 z15) ∧ (vh20 x0 x1 = true → (vh24 x0 x2 = true → vhS z1 z12 z14 z15 ∧ vhS z1 z12 z14 z15 ∧ vhS z1 z12 z14 z15 ∧ vhS z1 z12 z14 z15) ∧ (vh31 x0 x1 x2 x3 = true → vh13 x0 = true → vhS z1 z12 z14 z15 ∧ vhS z1 z12 z14 z15 ∧ vhS z1 z12 z14 z15 ∧ vhS z1 z12 z14 z15))))
def vhV (z0 z1 z2 z3 z4 z5 z6 z7 z8 z9 z10 z11 z12 z13 z14 z15 z16 z17 z18 z19 z20 : Int) (gl : ByteArray) (g : Nat) (n p q r t x0 x1 x2 x3 : Int) : Bool := evV (vh10 p q r t) (vh20 x0 x1) (vh31 x0 x1 x2 x3) (plc (badR (vh11 x0) (vh11 x0)) (slIdT (vh11 x0) (vh11 x0) r t) (slIdT (vh15 x0) (vh15 x0) r t))
def vi1 (p q : Int) : Bool := bif decide (p > q) then true else bif decide (p < (-4503599627370496 : Int)) then true else decide (q > 4503599627370496)
def vi2 (p q : Int) : Bool := !vi1 p q
def vi3 (z14 : Int) : Int := IntKind.i64.wrap (100000 * IntKind.i64.wrap z14)
def vi4 (z14 z15 : Int) : Bool := bif z15.tmod (4 : Int) == 1 then decide (vi3 z14 > 0) else false
def vi5 (z14 z15 : Int) (gl : ByteArray) : Bool := !eqBytes (bif vi4 z14 z15 then gl else gl) { data := #[77, 73, 82, 82, 79, 82] }
def vi6 (z1 : Int) : Int := IntKind.i64.wrap (1000 * IntKind.i64.wrap z1)
def vi7 (z1 z14 z15 : Int) : Int := bif vi4 z14 z15 then vi6 z1 else vi6 z1
def vi8 (z1 z14 z15 : Int) (gl : ByteArray) : Int := bif vi5 z14 z15 gl then vi7 z1 z14 z15 else vi7 z1 z14 z15
def vi9 (z3 : Int) : Int := IntKind.i64.wrap (1000 * IntKind.i64.wrap (z3.tmod 3000))
def vi10 (z3 z14 z15 : Int) : Int := bif vi4 z14 z15 then vi9 z3 else vi9 z3
def vi11 (z3 z14 z15 : Int) (gl : ByteArray) : Int := bif vi5 z14 z15 gl then vi10 z3 z14 z15 else vi10 z3 z14 z15
def vi12 (z12 : Int) : Int := IntKind.i64.wrap (1000 * IntKind.i64.wrap (z12.tmod 20000))
def vi13 (z12 z14 z15 : Int) : Int := bif vi4 z14 z15 then vi12 z12 else vi12 z12
def vi14 (z14 z15 : Int) : Int := bif vi4 z14 z15 then vi3 z14 else vi3 z14
def vi15 (z14 z15 : Int) : Int := bif vi4 z14 z15 then IntKind.i64.wrap ((vi3 z14).tdiv 4) else 0
def vi16 (q : Int) : Int := IntKind.i64.wrap (0 - q)
def vi17 (p : Int) : Int := IntKind.i64.wrap (0 - p)
def vi22 (z1 z3 z14 z15 p q r t : Int) (gl : ByteArray) : Bool := plc (badR p q) (slStT (vi8 z1 z14 z15 gl) (vi11 z3 z14 z15 gl) 0 0 0 0 p q r t) (slStT (vi8 z1 z14 z15 gl) (vi11 z3 z14 z15 gl) 0 0 0 0 (vi16 q) (vi17 p) r t)
def vi23 (x0 : Int) : Int := IntKind.i64.wrap (IntKind.i64.wrap x0 * 16777216)
def vi24 (x0 : Int) : Bool := bif decide (vi23 x0 > vi23 x0) then true else bif decide (vi23 x0 < (-4503599627370496 : Int)) then true else decide (vi23 x0 > 4503599627370496)
def vi25 (x0 : Int) : Bool := !vi24 x0
def vi26 (x1 : Int) : Int := IntKind.i64.wrap (IntKind.i64.wrap x1 * 16777216)
def vi27 (x0 : Int) : Int := IntKind.i64.wrap (0 - vi23 x0)
def vi32 (z1 z3 z14 z15 x0 x1 : Int) (gl : ByteArray) : Bool := plc (badR (vi23 x0) (vi23 x0)) (slStT (vi8 z1 z14 z15 gl) (vi11 z3 z14 z15 gl) 0 0 0 0 (vi23 x0) (vi23 x0) (vi26 x1) (vi26 x1)) (slStT (vi8 z1 z14 z15 gl) (vi11 z3 z14 z15 gl) 0 0 0 0 (vi27 x0) (vi27 x0) (vi26 x1) (vi26 x1))
def vi33 (x0 x2 : Int) : Int := IntKind.i64.wrap ((if IntKind.i64.wrap x2 < IntKind.i64.wrap x0 then IntKind.i64.wrap x2 else IntKind.i64.wrap x0) * 16777216)
def vi34 (x0 x2 : Int) : Int := IntKind.i64.wrap ((if IntKind.i64.wrap x2 > IntKind.i64.wrap x0 then IntKind.i64.wrap x2 else IntKind.i64.wrap x0) * 16777216)
def vi35 (x0 x2 : Int) : Bool := bif decide (vi33 x0 x2 > vi34 x0 x2) then true else bif decide (vi33 x0 x2 < (-4503599627370496 : Int)) then true else decide (vi34 x0 x2 > 4503599627370496)
def vi36 (x0 x2 : Int) : Bool := !vi35 x0 x2
def vi37 (x1 x3 : Int) : Int := IntKind.i64.wrap ((if IntKind.i64.wrap x3 < IntKind.i64.wrap x1 then IntKind.i64.wrap x3 else IntKind.i64.wrap x1) * 16777216)
def vi38 (x1 x3 : Int) : Int := IntKind.i64.wrap ((if IntKind.i64.wrap x3 > IntKind.i64.wrap x1 then IntKind.i64.wrap x3 else IntKind.i64.wrap x1) * 16777216)
def vi39 (x0 x2 : Int) : Int := IntKind.i64.wrap (0 - vi34 x0 x2)
def vi40 (x0 x2 : Int) : Int := IntKind.i64.wrap (0 - vi33 x0 x2)
def vi45 (z1 z3 z14 z15 x0 x1 x2 x3 : Int) (gl : ByteArray) : Bool := plc (badR (vi33 x0 x2) (vi34 x0 x2)) (slStT (vi8 z1 z14 z15 gl) (vi11 z3 z14 z15 gl) 0 0 0 0 (vi33 x0 x2) (vi34 x0 x2) (vi37 x1 x3) (vi38 x1 x3)) (slStT (vi8 z1 z14 z15 gl) (vi11 z3 z14 z15 gl) 0 0 0 0 (vi39 x0 x2) (vi40 x0 x2) (vi37 x1 x3) (vi38 x1 x3))
def viS (z1 z3 z9 z10 z11 z12 z14 z15 : Int) (gl : ByteArray) : Prop := vStd (vi8 z1 z14 z15 gl) (vi11 z3 z14 z15 gl) 0 0 0 0 (bif vi5 z14 z15 gl then IntKind.i64.wrap (1000 * IntKind.i64.wrap z9) else 0) (bif vi5 z14 z15 gl then IntKind.i64.wrap (1000 * IntKind.i64.wrap z10) else 0) (bif vi5 z14 z15 gl then IntKind.i64.wrap (z11.tmod 4) else 0) (bif vi5 z14 z15 gl then vi13 z12 z14 z15 else vi13 z12 z14 z15) (bif vi5 z14 z15 gl then bif vi4 z14 z15 then gl else gl else bif vi4 z14 z15 then gl else gl) (bif vi5 z14 z15 gl then vi14 z14 z15 else vi14 z14 z15) (bif vi5 z14 z15 gl then vi15 z14 z15 else vi15 z14 z15)
def viN (z0 z1 z2 z3 z4 z5 z6 z7 z8 z9 z10 z11 z12 z13 z14 z15 z16 z17 z18 z19 z20 : Int) (gl : ByteArray) (g : Nat) (n p q r t x0 x1 x2 x3 : Int) : Prop := ((((z14 = z14 ∧ z13 = z13 ∧ z12 = z12 ∧ z3 = z3 ∧ z1 = z1) ∧ (IntKind.i64.wrap z13).tmod 5 = (g : Int)) ∧ (z0.tmod (8 : Int) == 4) = false ∧ (z0.tmod (8 : Int) == 5) = false ∧ (z0.tmod (8 : Int) == 6) = false ∧ (z0.tmod (8 : Int) == 7) = true ∧ (z11.tmod (2 : Int) == 0) = false) ∧ (((r = r ∧ t = t) ∧ x0 = x0 ∧ x3 = x3 ∧ x1 = x1 ∧ x2 = x2 ∧ x0 = x0 ∧ x1 = x1 ∧ (r = r ∧ t = t) ∧ p = p ∧ q = q) ∧ ((r = r ∧ t = t) ∧ x0 = x0 ∧ x3 = x3 ∧ x1 = x1 ∧ x2 = x2 ∧ x0 = x0 ∧ (r = r ∧ t = t) ∧ p = p ∧ q = q) ∧ ((r = r ∧ t = t) ∧ x0 = x0 ∧ x3 = x3 ∧ x1 = x1 ∧ (r = r ∧ t = t) ∧ p = p ∧ q = q) ∧ ((r = r ∧ t = t) ∧ x0 = x0 ∧ (r = r ∧ t = t) ∧ p = p ∧ q = q) ∧ (r = r ∧ t = t) ∧ (r = r ∧ t = t) ∧ p = p ∧ q = q) ∧ (vi2 p q = true → viS z1 z3 z9 z10 z11 z12 z14 z15 gl ∧ viS z1 z3 z9 z10 z11 z12 z14 z15 gl ∧ viS z1 z3 z9 z10 z11 z12 z14 z15 gl ∧ viS z1 z3 z9 z10 z11 z12 z14 z15 gl) ∧ (vi22 z1 z3 z14 z15 p q r t gl = true → (vi25 x0 = true → viS z1 z3 z9 z10 z11 z12 z14 z15 gl ∧ viS z1 z3 z9 z10 z11 z12 z14 z15 gl ∧ viS z1 z3 z9 z10 z11 z12 z14 z15 gl ∧ viS z1 z3 z9 z10 z11 z12 z14 z15 gl) ∧ (vi32 z1 z3 z14 z15 x0 x1 gl = true → (vi36 x0 x2 = true → viS z1 z3 z9 z10 z11 z12 z14 z15 gl ∧ viS z1 z3 z9 z10 z11 z12 z14 z15 gl ∧ viS z1 z3 z9 z10 z11 z12 z14 z15 gl ∧ viS z1 z3 z9 z10 z11 z12 z14 z15 gl) ∧ (vi45 z1 z3 z14 z15 x0 x1 x2 x3 gl = true → vi25 x0 = true → viS z1 z3 z9 z10 z11 z12 z14 z15 gl ∧ viS z1 z3 z9 z10 z11 z12 z14 z15 gl ∧ viS z1 z3 z9 z10 z11 z12 z14 z15 gl ∧ viS z1 z3 z9 z10 z11 z12 z14 z15 gl))))
def viV (z0 z1 z2 z3 z4 z5 z6 z7 z8 z9 z10 z11 z12 z13 z14 z15 z16 z17 z18 z19 z20 : Int) (gl : ByteArray) (g : Nat) (n p q r t x0 x1 x2 x3 : Int) : Bool := evV (vi22 z1 z3 z14 z15 p q r t gl) (vi32 z1 z3 z14 z15 x0 x1 gl) (vi45 z1 z3 z14 z15 x0 x1 x2 x3 gl) (plc (badR (vi23 x0) (vi23 x0)) (slStT (vi8 z1 z14 z15 gl) (vi11 z3 z14 z15 gl) 0 0 0 0 (vi23 x0) (vi23 x0) r t) (slStT (vi8 z1 z14 z15 gl) (vi11 z3 z14 z15 gl) 0 0 0 0 (vi27 x0) (vi27 x0) r t))
end Go.Rd
