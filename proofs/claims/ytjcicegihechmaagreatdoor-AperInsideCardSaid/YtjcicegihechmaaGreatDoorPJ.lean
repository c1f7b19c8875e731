/- What is proved: AperInside returns true, whatever the input (part 10). No conditions beyond those of the row. -/
import Derived.Test.YtjcicegihechmaaGreatDoorPG
import Derived.Test.YtjcicegihechmaaGreatDoorPI
import Derived.KernelRfl
set_option linter.unusedVariables false
set_option linter.unusedSimpArgs false
set_option linter.unusedSectionVars false
namespace Go.Proofs.YtjcicegihechmaaGreatDoor.K
open Go Go.Eng Go.Dg
noncomputable section
def ti_s00_nd (p q:Bool) (a b:List Int) (i x:Int) (R:List Int):Prop:=((0:Int)=(0:Int)/\(0:Int)=(0:Int))/\R=R
theorem ti_s00 (p q:Bool) (a b:List Int) (i x:Int) (R:List Int):fit (tiS p q a b i x R none none) (tiS p q a b i x R none none) (patch (tiS p q a b i x R none none) ((tjU 8 R b).S (0,0,R))) ([])=some (.p (ti_s00_nd p q a b i x R)):=by kernel_rfl
def ti_b00_nd (p q:Bool) (a b:List Int) (i x:Int) (R:List Int) (j c:Int) (d:List Int):Prop:=(decide (j<(↑R.length:Int))=true->(((0:Int)<=j/\j<(↑R.length:Int))/\((0:Int)+j).toNat<d.length/\(decide (j<(↑b.length:Int))=true->((0:Int)<=j/\j<(↑b.length:Int))/\j.toNat<b.length)/\((0:Int)+j).toNat<d.length/\d.getD ((0:Int)+j).toNat (0:Int)=d.getD ((0:Int)+j).toNat (0:Int))/\((0:Int)<=j/\j<(↑R.length:Int))/\((0:Int)+j).toNat<d.length)/\((!decide (j<(↑R.length:Int)))=true->d=d/\(tjU (8:Nat) R b).F (j,c,d)=(Ex.exit (2:Nat),tjF (8:Nat) d))/\(decide (j<(↑R.length:Int))=true->(((tjC (tjX2 b (tkK R b) j c d))=tjC (tjX2 b (tkK R b) j c d)/\IntKind.i64.wrap (j+(1:Int))=IntKind.i64.wrap (j+(1:Int)))/\d.set ((0:Int)+j).toNat (tjR (tjX2 b (tkK R b) j c d))=d.set ((0:Int)+j).toNat (tjR (tjX2 b (tkK R b) j c d)))/\(tjU (8:Nat) R b).I ((tjU (8:Nat) R b).next (j,c,d))/\(tjU (8:Nat) R b).μ ((tjU (8:Nat) R b).next (j,c,d))<(tjU (8:Nat) R b).μ (j,c,d)/\(tjU (8:Nat) R b).F ((tjU (8:Nat) R b).next (j,c,d))=(tjU (8:Nat) R b).F (j,c,d))
theorem ti_b00 (p q:Bool) (a b:List Int) (i x:Int) (R:List Int) (j c:Int) (d:List Int):chkR (tiS p q a b i x R none none) ((tjU 8 R b).way ((j,c,d))) ((run cL2 300).code tkFr tkB (patch (tiS p q a b i x R none none) ((tjU 8 R b).S (j,c,d))))=some (.p (ti_b00_nd p q a b i x R j c d)):=by kernel_rfl
def tk_b00_nd (lt:Bool) (p q:Bool) (a b:List Int) (i x:Int) (R:List Int):Prop:=((((((0:Int)<=(0:Int)/\(0:Int)<=(↑R.length:Int)/\(0:Int)+(↑R.length:Int)<=(↑R.length:Int))/\(↑b.length:Int)=(↑b.length:Int))/\Sm (List.take (↑R.length:Int).toNat (List.drop (Int.toNat (0:Int)) R))/\Sm b)/\(!lessL (List.take (↑R.length:Int).toNat (List.drop (Int.toNat (0:Int)) R)) b)=true)/\(((0:Int)<=IntKind.i64.wrap ((↑b.length:Int) - (1:Int))/\IntKind.i64.wrap ((↑b.length:Int) - (1:Int))<(↑R.length:Int))/\((0:Int)+IntKind.i64.wrap ((↑b.length:Int) - (1:Int))).toNat<R.length/\((0:Int)<=IntKind.i64.wrap ((↑b.length:Int) - (1:Int))/\IntKind.i64.wrap ((↑b.length:Int) - (1:Int))<(↑b.length:Int))/\(IntKind.i64.wrap ((↑b.length:Int) - (1:Int))).toNat<b.length/\(decide (IntKind.i64.wrap (IntKind.i64.wrap ((↑b.length:Int) - (1:Int))+(1:Int))<(↑R.length:Int))=true->((0:Int)<=IntKind.i64.wrap (IntKind.i64.wrap ((↑b.length:Int) - (1:Int))+(1:Int))/\IntKind.i64.wrap (IntKind.i64.wrap ((↑b.length:Int) - (1:Int))+(1:Int))<(↑R.length:Int))/\((0:Int)+IntKind.i64.wrap (IntKind.i64.wrap ((↑b.length:Int) - (1:Int))+(1:Int))).toNat<R.length)/\(((IntKind.i64.wrap ((↑b.length:Int) - (1:Int))).toNat<b.length/\b.getD (IntKind.i64.wrap ((↑b.length:Int) - (1:Int))).toNat (0:Int)=b.getD (IntKind.i64.wrap ((↑b.length:Int) - (1:Int))).toNat (0:Int))/\((0:Int)+IntKind.i64.wrap ((↑b.length:Int) - (1:Int))).toNat<R.length/\R.getD ((0:Int)+IntKind.i64.wrap ((↑b.length:Int) - (1:Int))).toNat (0:Int)=R.getD ((0:Int)+IntKind.i64.wrap ((↑b.length:Int) - (1:Int))).toNat (0:Int))/\IntKind.i64.wrap (b.getD (IntKind.i64.wrap ((↑b.length:Int) - (1:Int))).toNat (0:Int)+(1:Int))≠(0:Int))/\At (tkFr) (tkFr) (tkB) (tkB) (tiS p q a b i x R none none) (tiS p q a b i x R none none)/\((0:Int)<=(0:Int)/\(0:Int)<=(↑R.length:Int)/\(0:Int)+(↑R.length:Int)<=(↑(padL (tkD R none).length (val (tkD R none) - tkK (tkD R none) b*val b)).length:Int))/\Dig (List.take (↑R.length:Int).toNat (List.drop (Int.toNat (0:Int)) (padL (tkD R none).length (val (tkD R none) - tkK (tkD R none) b*val b))))/\Sm (List.take (↑R.length:Int).toNat (List.drop (Int.toNat (0:Int)) (padL (tkD R none).length (val (tkD R none) - tkK (tkD R none) b*val b)))))/\(true=true->((((0:Int)=(0:Int)/\(↑(digs (val (List.take (↑R.length:Int).toNat (List.drop (Int.toNat (0:Int)) (padL (tkD R none).length (val (tkD R none) - tkK (tkD R none) b*val b))))).toNat).length:Int)=(↑(digs (val R - tkK R b*val b).toNat).length:Int))/\IntKind.i64.wrap ((0:Int)+tkK R b)=IntKind.i64.wrap ((0:Int)+tkK R b))/\digs (val (List.take (↑R.length:Int).toNat (List.drop (Int.toNat (0:Int)) (padL (tkD R none).length (val (tkD R none) - tkK (tkD R none) b*val b))))).toNat=digs (val R - tkK R b*val b).toNat)/\(tkU false lt R b).I ((tkU false lt R b).next none)/\(tkU false lt R b).μ ((tkU false lt R b).next none)<(tkU false lt R b).μ none/\(tkU false lt R b).F ((tkU false lt R b).next none)=(tkU false lt R b).F none)
theorem tk_b00 (lt:Bool) (p q:Bool) (a b:List Int) (i x:Int) (R:List Int):chkR (tkS p q a b i x R none) ((tkU false lt R b).way (none)) ((run (cTi p q a b i x R none none) 300).code tkFr tkA (patch (tkS p q a b i x R none) ((tkU false lt R b).S none)))=some (.p (tk_b00_nd lt p q a b i x R)):=by kernel_rfl
def tk_e00_nd (lt:Bool) (p q:Bool) (a b:List Int) (i x:Int) (R:List Int):Prop:=(((((0:Int)<=(0:Int)/\(0:Int)<=(↑R.length:Int)/\(0:Int)+(↑R.length:Int)<=(↑R.length:Int))/\(↑b.length:Int)=(↑b.length:Int))/\Sm (List.take (↑R.length:Int).toNat (List.drop (Int.toNat (0:Int)) R))/\Sm b)/\(!lessL (List.take (↑R.length:Int).toNat (List.drop (Int.toNat (0:Int)) R)) b)=false)/\(true=true->(0:Int)=(0:Int)/\(tkU false lt R b).F none=(Ex.exit (0:Nat),tkP false none))
theorem tk_e00 (lt:Bool) (p q:Bool) (a b:List Int) (i x:Int) (R:List Int):chkR (tkS p q a b i x R none) ((tkU false lt R b).way (none)) ((run cTe 300).code tkFr tkA (patch (tkS p q a b i x R none) ((tkU false lt R b).S none)))=some (.p (tk_e00_nd lt p q a b i x R)):=by kernel_rfl
def ti_s01_nd (p q:Bool) (a b:List Int) (i x:Int) (R:List Int) (r n:Int):Prop:=((0:Int)=(0:Int)/\(0:Int)=(0:Int))/\digs r.toNat=digs r.toNat
theorem ti_s01 (p q:Bool) (a b:List Int) (i x:Int) (R:List Int) (r n:Int):fit (tiS p q a b i x R none (some (r,n))) (tiS p q a b i x R none (some (r,n))) (patch (tiS p q a b i x R none (some (r,n))) ((tjU 9 (digs r.toNat) b).S (0,0,(digs r.toNat)))) ([])=some (.p (ti_s01_nd p q a b i x R r n)):=by kernel_rfl
def ti_b01_nd (p q:Bool) (a b:List Int) (i x:Int) (R:List Int) (r n:Int) (j c:Int) (d:List Int):Prop:=(decide (j<(↑(digs r.toNat).length:Int))=true->(((0:Int)<=j/\j<(↑(digs r.toNat).length:Int))/\((0:Int)+j).toNat<d.length/\(decide (j<(↑b.length:Int))=true->((0:Int)<=j/\j<(↑b.length:Int))/\j.toNat<b.length)/\((0:Int)+j).toNat<d.length/\d.getD ((0:Int)+j).toNat (0:Int)=d.getD ((0:Int)+j).toNat (0:Int))/\((0:Int)<=j/\j<(↑(digs r.toNat).length:Int))/\((0:Int)+j).toNat<d.length)/\((!decide (j<(↑(digs r.toNat).length:Int)))=true->d=d/\(tjU (9:Nat) (digs r.toNat) b).F (j,c,d)=(Ex.exit (2:Nat),tjF (9:Nat) d))/\(decide (j<(↑(digs r.toNat).length:Int))=true->(((tjC (tjX2 b (tkK (digs r.toNat) b) j c d))=tjC (tjX2 b (tkK (digs r.toNat) b) j c d)/\IntKind.i64.wrap (j+(1:Int))=IntKind.i64.wrap (j+(1:Int)))/\d.set ((0:Int)+j).toNat (tjR (tjX2 b (tkK (digs r.toNat) b) j c d))=d.set ((0:Int)+j).toNat (tjR (tjX2 b (tkK (digs r.toNat) b) j c d)))/\(tjU (9:Nat) (digs r.toNat) b).I ((tjU (9:Nat) (digs r.toNat) b).next (j,c,d))/\(tjU (9:Nat) (digs r.toNat) b).μ ((tjU (9:Nat) (digs r.toNat) b).next (j,c,d))<(tjU (9:Nat) (digs r.toNat) b).μ (j,c,d)/\(tjU (9:Nat) (digs r.toNat) b).F ((tjU (9:Nat) (digs r.toNat) b).next (j,c,d))=(tjU (9:Nat) (digs r.toNat) b).F (j,c,d))
theorem ti_b01 (p q:Bool) (a b:List Int) (i x:Int) (R:List Int) (r n:Int) (j c:Int) (d:List Int):chkR (tiS p q a b i x R none (some (r,n))) ((tjU 9 (digs r.toNat) b).way ((j,c,d))) ((run cL2 300).code tkFr tkB (patch (tiS p q a b i x R none (some (r,n))) ((tjU 9 (digs r.toNat) b).S (j,c,d))))=some (.p (ti_b01_nd p q a b i x R r n j c d)):=by kernel_rfl
def tk_b01_nd (lt:Bool) (p q:Bool) (a b:List Int) (i x:Int) (R:List Int) (r n:Int):Prop:=((((((0:Int)<=(0:Int)/\(0:Int)<=(↑(digs r.toNat).length:Int)/\(0:Int)+(↑(digs r.toNat).length:Int)<=(↑(digs r.toNat).length:Int))/\(↑b.length:Int)=(↑b.length:Int))/\Sm (List.take (↑(digs r.toNat).length:Int).toNat (List.drop (Int.toNat (0:Int)) (digs r.toNat)))/\Sm b)/\(!lessL (List.take (↑(digs r.toNat).length:Int).toNat (List.drop (Int.toNat (0:Int)) (digs r.toNat))) b)=true)/\(((0:Int)<=IntKind.i64.wrap ((↑b.length:Int) - (1:Int))/\IntKind.i64.wrap ((↑b.length:Int) - (1:Int))<(↑(digs r.toNat).length:Int))/\((0:Int)+IntKind.i64.wrap ((↑b.length:Int) - (1:Int))).toNat<(digs r.toNat).length/\((0:Int)<=IntKind.i64.wrap ((↑b.length:Int) - (1:Int))/\IntKind.i64.wrap ((↑b.length:Int) - (1:Int))<(↑b.length:Int))/\(IntKind.i64.wrap ((↑b.length:Int) - (1:Int))).toNat<b.length/\(decide (IntKind.i64.wrap (IntKind.i64.wrap ((↑b.length:Int) - (1:Int))+(1:Int))<(↑(digs r.toNat).length:Int))=true->((0:Int)<=IntKind.i64.wrap (IntKind.i64.wrap ((↑b.length:Int) - (1:Int))+(1:Int))/\IntKind.i64.wrap (IntKind.i64.wrap ((↑b.length:Int) - (1:Int))+(1:Int))<(↑(digs r.toNat).length:Int))/\((0:Int)+IntKind.i64.wrap (IntKind.i64.wrap ((↑b.length:Int) - (1:Int))+(1:Int))).toNat<(digs r.toNat).length)/\(((IntKind.i64.wrap ((↑b.length:Int) - (1:Int))).toNat<b.length/\b.getD (IntKind.i64.wrap ((↑b.length:Int) - (1:Int))).toNat (0:Int)=b.getD (IntKind.i64.wrap ((↑b.length:Int) - (1:Int))).toNat (0:Int))/\((0:Int)+IntKind.i64.wrap ((↑b.length:Int) - (1:Int))).toNat<(digs r.toNat).length/\(digs r.toNat).getD ((0:Int)+IntKind.i64.wrap ((↑b.length:Int) - (1:Int))).toNat (0:Int)=(digs r.toNat).getD ((0:Int)+IntKind.i64.wrap ((↑b.length:Int) - (1:Int))).toNat (0:Int))/\IntKind.i64.wrap (b.getD (IntKind.i64.wrap ((↑b.length:Int) - (1:Int))).toNat (0:Int)+(1:Int))≠(0:Int))/\At (tkFr) (tkFr) (tkB) (tkB) (tiS p q a b i x R none (some (r,n))) (tiS p q a b i x R none (some (r,n)))/\((0:Int)<=(0:Int)/\(0:Int)<=(↑(digs r.toNat).length:Int)/\(0:Int)+(↑(digs r.toNat).length:Int)<=(↑(padL (tkD R (some (r,n))).length (val (tkD R (some (r,n))) - tkK (tkD R (some (r,n))) b*val b)).length:Int))/\Dig (List.take (↑(digs r.toNat).length:Int).toNat (List.drop (Int.toNat (0:Int)) (padL (tkD R (some (r,n))).length (val (tkD R (some (r,n))) - tkK (tkD R (some (r,n))) b*val b))))/\Sm (List.take (↑(digs r.toNat).length:Int).toNat (List.drop (Int.toNat (0:Int)) (padL (tkD R (some (r,n))).length (val (tkD R (some (r,n))) - tkK (tkD R (some (r,n))) b*val b)))))/\(true=true->((((0:Int)=(0:Int)/\(↑(digs (val (List.take (↑(digs r.toNat).length:Int).toNat (List.drop (Int.toNat (0:Int)) (padL (tkD R (some (r,n))).length (val (tkD R (some (r,n))) - tkK (tkD R (some (r,n))) b*val b))))).toNat).length:Int)=(↑(digs (r - tkK (digs r.toNat) b*val b).toNat).length:Int))/\IntKind.i64.wrap (n+tkK (digs r.toNat) b)=IntKind.i64.wrap (n+tkK (digs r.toNat) b))/\digs (val (List.take (↑(digs r.toNat).length:Int).toNat (List.drop (Int.toNat (0:Int)) (padL (tkD R (some (r,n))).length (val (tkD R (some (r,n))) - tkK (tkD R (some (r,n))) b*val b))))).toNat=digs (r - tkK (digs r.toNat) b*val b).toNat)/\(tkU false lt R b).I ((tkU false lt R b).next (some (r,n)))/\(tkU false lt R b).μ ((tkU false lt R b).next (some (r,n)))<(tkU false lt R b).μ (some (r,n))/\(tkU false lt R b).F ((tkU false lt R b).next (some (r,n)))=(tkU false lt R b).F (some (r,n)))
theorem tk_b01 (lt:Bool) (p q:Bool) (a b:List Int) (i x:Int) (R:List Int) (r n:Int):chkR (tkS p q a b i x R none) ((tkU false lt R b).way ((some (r,n)))) ((run (cTi p q a b i x R none (some (r,n))) 300).code tkFr tkA (patch (tkS p q a b i x R none) ((tkU false lt R b).S (some (r,n)))))=some (.p (tk_b01_nd lt p q a b i x R r n)):=by kernel_rfl
def tk_e01_nd (lt:Bool) (p q:Bool) (a b:List Int) (i x:Int) (R:List Int) (r n:Int):Prop:=(((((0:Int)<=(0:Int)/\(0:Int)<=(↑(digs r.toNat).length:Int)/\(0:Int)+(↑(digs r.toNat).length:Int)<=(↑(digs r.toNat).length:Int))/\(↑b.length:Int)=(↑b.length:Int))/\Sm (List.take (↑(digs r.toNat).length:Int).toNat (List.drop (Int.toNat (0:Int)) (digs r.toNat)))/\Sm b)/\(!lessL (List.take (↑(digs r.toNat).length:Int).toNat (List.drop (Int.toNat (0:Int)) (digs r.toNat))) b)=false)/\(true=true->((((0:Int)=(0:Int)/\(↑(digs r.toNat).length:Int)=(↑(digs r.toNat).length:Int))/\n=n)/\digs r.toNat=digs r.toNat)/\(tkU false lt R b).F (some (r,n))=(Ex.exit (0:Nat),tkP false (some (r,n))))
theorem tk_e01 (lt:Bool) (p q:Bool) (a b:List Int) (i x:Int) (R:List Int) (r n:Int):chkR (tkS p q a b i x R none) ((tkU false lt R b).way ((some (r,n)))) ((run cTe 300).code tkFr tkA (patch (tkS p q a b i x R none) ((tkU false lt R b).S (some (r,n)))))=some (.p (tk_e01_nd lt p q a b i x R r n)):=by kernel_rfl
def tk_s0_nd (lt:Bool) (p q:Bool) (a b:List Int) (i x:Int) (R:List Int):Prop:=(0:Int)=(0:Int)
theorem tk_s0 (lt:Bool) (p q:Bool) (a b:List Int) (i x:Int) (R:List Int):fit (tkS p q a b i x R none) (tkS p q a b i x R none) (patch (tkS p q a b i x R none) ((tkU false lt R b).S none)) ([])=some (.p (tk_s0_nd lt p q a b i x R)):=by kernel_rfl
def ti_s10_nd (p q:Bool) (a b:List Int) (i x:Int) (R:List Int) (s:List Int):Prop:=((0:Int)=(0:Int)/\(0:Int)=(0:Int))/\R=R
theorem ti_s10 (p q:Bool) (a b:List Int) (i x:Int) (R:List Int) (s:List Int):fit (tiS p q a b i x R (some s) none) (tiS p q a b i x R (some s) none) (patch (tiS p q a b i x R (some s) none) ((tjU 10 R b).S (0,0,R))) ([])=some (.p (ti_s10_nd p q a b i x R s)):=by kernel_rfl
def ti_b10_nd (p q:Bool) (a b:List Int) (i x:Int) (R:List Int) (s:List Int) (j c:Int) (d:List Int):Prop:=(decide (j<(↑R.length:Int))=true->(((0:Int)<=j/\j<(↑R.length:Int))/\((0:Int)+j).toNat<d.length/\(decide (j<(↑b.length:Int))=true->((0:Int)<=j/\j<(↑b.length:Int))/\j.toNat<b.length)/\((0:Int)+j).toNat<d.length/\d.getD ((0:Int)+j).toNat (0:Int)=d.getD ((0:Int)+j).toNat (0:Int))/\((0:Int)<=j/\j<(↑R.length:Int))/\((0:Int)+j).toNat<d.length)/\((!decide (j<(↑R.length:Int)))=true->d=d/\(tjU (10:Nat) R b).F (j,c,d)=(Ex.exit (2:Nat),tjF (10:Nat) d))/\(decide (j<(↑R.length:Int))=true->(((tjC (tjX2 b (tkK R b) j c d))=tjC (tjX2 b (tkK R b) j c d)/\IntKind.i64.wrap (j+(1:Int))=IntKind.i64.wrap (j+(1:Int)))/\d.set ((0:Int)+j).toNat (tjR (tjX2 b (tkK R b) j c d))=d.set ((0:Int)+j).toNat (tjR (tjX2 b (tkK R b) j c d)))/\(tjU (10:Nat) R b).I ((tjU (10:Nat) R b).next (j,c,d))/\(tjU (10:Nat) R b).μ ((tjU (10:Nat) R b).next (j,c,d))<(tjU (10:Nat) R b).μ (j,c,d)/\(tjU (10:Nat) R b).F ((tjU (10:Nat) R b).next (j,c,d))=(tjU (10:Nat) R b).F (j,c,d))
theorem ti_b10 (p q:Bool) (a b:List Int) (i x:Int) (R:List Int) (s:List Int) (j c:Int) (d:List Int):chkR (tiS p q a b i x R (some s) none) ((tjU 10 R b).way ((j,c,d))) ((run cL2 300).code tkFr tkB (patch (tiS p q a b i x R (some s) none) ((tjU 10 R b).S (j,c,d))))=some (.p (ti_b10_nd p q a b i x R s j c d)):=by kernel_rfl
def tk_b10_nd (lt:Bool) (p q:Bool) (a b:List Int) (i x:Int) (R:List Int) (s:List Int):Prop:=((((((0:Int)<=(0:Int)/\(0:Int)<=(↑R.length:Int)/\(0:Int)+(↑R.length:Int)<=(↑R.length:Int))/\(↑b.length:Int)=(↑b.length:Int))/\Sm (List.take (↑R.length:Int).toNat (List.drop (Int.toNat (0:Int)) R))/\Sm b)/\(!lessL (List.take (↑R.length:Int).toNat (List.drop (Int.toNat (0:Int)) R)) b)=true)/\(((0:Int)<=IntKind.i64.wrap ((↑b.length:Int) - (1:Int))/\IntKind.i64.wrap ((↑b.length:Int) - (1:Int))<(↑R.length:Int))/\((0:Int)+IntKind.i64.wrap ((↑b.length:Int) - (1:Int))).toNat<R.length/\((0:Int)<=IntKind.i64.wrap ((↑b.length:Int) - (1:Int))/\IntKind.i64.wrap ((↑b.length:Int) - (1:Int))<(↑b.length:Int))/\(IntKind.i64.wrap ((↑b.length:Int) - (1:Int))).toNat<b.length/\(decide (IntKind.i64.wrap (IntKind.i64.wrap ((↑b.length:Int) - (1:Int))+(1:Int))<(↑R.length:Int))=true->((0:Int)<=IntKind.i64.wrap (IntKind.i64.wrap ((↑b.length:Int) - (1:Int))+(1:Int))/\IntKind.i64.wrap (IntKind.i64.wrap ((↑b.length:Int) - (1:Int))+(1:Int))<(↑R.length:Int))/\((0:Int)+IntKind.i64.wrap (IntKind.i64.wrap ((↑b.length:Int) - (1:Int))+(1:Int))).toNat<R.length)/\(((IntKind.i64.wrap ((↑b.length:Int) - (1:Int))).toNat<b.length/\b.getD (IntKind.i64.wrap ((↑b.length:Int) - (1:Int))).toNat (0:Int)=b.getD (IntKind.i64.wrap ((↑b.length:Int) - (1:Int))).toNat (0:Int))/\((0:Int)+IntKind.i64.wrap ((↑b.length:Int) - (1:Int))).toNat<R.length/\R.getD ((0:Int)+IntKind.i64.wrap ((↑b.length:Int) - (1:Int))).toNat (0:Int)=R.getD ((0:Int)+IntKind.i64.wrap ((↑b.length:Int) - (1:Int))).toNat (0:Int))/\IntKind.i64.wrap (b.getD (IntKind.i64.wrap ((↑b.length:Int) - (1:Int))).toNat (0:Int)+(1:Int))≠(0:Int))/\At (tkFr) (tkFr) (tkB) (tkB) (tiS p q a b i x R (some s) none) (tiS p q a b i x R (some s) none)/\((0:Int)<=(0:Int)/\(0:Int)<=(↑R.length:Int)/\(0:Int)+(↑R.length:Int)<=(↑(padL (tkD R none).length (val (tkD R none) - tkK (tkD R none) b*val b)).length:Int))/\Dig (List.take (↑R.length:Int).toNat (List.drop (Int.toNat (0:Int)) (padL (tkD R none).length (val (tkD R none) - tkK (tkD R none) b*val b))))/\Sm (List.take (↑R.length:Int).toNat (List.drop (Int.toNat (0:Int)) (padL (tkD R none).length (val (tkD R none) - tkK (tkD R none) b*val b)))))/\(true=true->((((0:Int)=(0:Int)/\(↑(digs (val (List.take (↑R.length:Int).toNat (List.drop (Int.toNat (0:Int)) (padL (tkD R none).length (val (tkD R none) - tkK (tkD R none) b*val b))))).toNat).length:Int)=(↑(digs (val R - tkK R b*val b).toNat).length:Int))/\IntKind.i64.wrap ((0:Int)+tkK R b)=IntKind.i64.wrap ((0:Int)+tkK R b))/\digs (val (List.take (↑R.length:Int).toNat (List.drop (Int.toNat (0:Int)) (padL (tkD R none).length (val (tkD R none) - tkK (tkD R none) b*val b))))).toNat=digs (val R - tkK R b*val b).toNat)/\(tkU true lt R b).I ((tkU true lt R b).next none)/\(tkU true lt R b).μ ((tkU true lt R b).next none)<(tkU true lt R b).μ none/\(tkU true lt R b).F ((tkU true lt R b).next none)=(tkU true lt R b).F none)
theorem tk_b10 (lt:Bool) (p q:Bool) (a b:List Int) (i x:Int) (R:List Int) (s:List Int):chkR (tkS p q a b i x R (some s)) ((tkU true lt R b).way (none)) ((run (cTi p q a b i x R (some s) none) 300).code tkFr tkA (patch (tkS p q a b i x R (some s)) ((tkU true lt R b).S none)))=some (.p (tk_b10_nd lt p q a b i x R s)):=by kernel_rfl
def tk_e10_nd (lt:Bool) (p q:Bool) (a b:List Int) (i x:Int) (R:List Int) (s:List Int):Prop:=(((((0:Int)<=(0:Int)/\(0:Int)<=(↑R.length:Int)/\(0:Int)+(↑R.length:Int)<=(↑R.length:Int))/\(↑b.length:Int)=(↑b.length:Int))/\Sm (List.take (↑R.length:Int).toNat (List.drop (Int.toNat (0:Int)) R))/\Sm b)/\(!lessL (List.take (↑R.length:Int).toNat (List.drop (Int.toNat (0:Int)) R)) b)=false)/\(true=true->(0:Int)=(0:Int)/\(tkU true lt R b).F none=(Ex.exit (0:Nat),tkP true none))
theorem tk_e10 (lt:Bool) (p q:Bool) (a b:List Int) (i x:Int) (R:List Int) (s:List Int):chkR (tkS p q a b i x R (some s)) ((tkU true lt R b).way (none)) ((run cTe 300).code tkFr tkA (patch (tkS p q a b i x R (some s)) ((tkU true lt R b).S none)))=some (.p (tk_e10_nd lt p q a b i x R s)):=by kernel_rfl
def ti_s11_nd (p q:Bool) (a b:List Int) (i x:Int) (R:List Int) (s:List Int) (r n:Int):Prop:=((0:Int)=(0:Int)/\(0:Int)=(0:Int))/\digs r.toNat=digs r.toNat
theorem ti_s11 (p q:Bool) (a b:List Int) (i x:Int) (R:List Int) (s:List Int) (r n:Int):fit (tiS p q a b i x R (some s) (some (r,n))) (tiS p q a b i x R (some s) (some (r,n))) (patch (tiS p q a b i x R (some s) (some (r,n))) ((tjU 11 (digs r.toNat) b).S (0,0,(digs r.toNat)))) ([])=some (.p (ti_s11_nd p q a b i x R s r n)):=by kernel_rfl
def ti_b11_nd (p q:Bool) (a b:List Int) (i x:Int) (R:List Int) (s:List Int) (r n:Int) (j c:Int) (d:List Int):Prop:=(decide (j<(↑(digs r.toNat).length:Int))=true->(((0:Int)<=j/\j<(↑(digs r.toNat).length:Int))/\((0:Int)+j).toNat<d.length/\(decide (j<(↑b.length:Int))=true->((0:Int)<=j/\j<(↑b.length:Int))/\j.toNat<b.length)/\((0:Int)+j).toNat<d.length/\d.getD ((0:Int)+j).toNat (0:Int)=d.getD ((0:Int)+j).toNat (0:Int))/\((0:Int)<=j/\j<(↑(digs r.toNat).length:Int))/\((0:Int)+j).toNat<d.length)/\((!decide (j<(↑(digs r.toNat).length:Int)))=true->d=d/\(tjU (11:Nat) (digs r.toNat) b).F (j,c,d)=(Ex.exit (2:Nat),tjF (11:Nat) d))/\(decide (j<(↑(digs r.toNat).length:Int))=true->(((tjC (tjX2 b (tkK (digs r.toNat) b) j c d))=tjC (tjX2 b (tkK (digs r.toNat) b) j c d)/\IntKind.i64.wrap (j+(1:Int))=IntKind.i64.wrap (j+(1:Int)))/\d.set ((0:Int)+j).toNat (tjR (tjX2 b (tkK (digs r.toNat) b) j c d))=d.set ((0:Int)+j).toNat (tjR (tjX2 b (tkK (digs r.toNat) b) j c d)))/\(tjU (11:Nat) (digs r.toNat) b).I ((tjU (11:Nat) (digs r.toNat) b).next (j,c,d))/\(tjU (11:Nat) (digs r.toNat) b).μ ((tjU (11:Nat) (digs r.toNat) b).next (j,c,d))<(tjU (11:Nat) (digs r.toNat) b).μ (j,c,d)/\(tjU (11:Nat) (digs r.toNat) b).F ((tjU (11:Nat) (digs r.toNat) b).next (j,c,d))=(tjU (11:Nat) (digs r.toNat) b).F (j,c,d))
theorem ti_b11 (p q:Bool) (a b:List Int) (i x:Int) (R:List Int) (s:List Int) (r n:Int) (j c:Int) (d:List Int):chkR (tiS p q a b i x R (some s) (some (r,n))) ((tjU 11 (digs r.toNat) b).way ((j,c,d))) ((run cL2 300).code tkFr tkB (patch (tiS p q a b i x R (some s) (some (r,n))) ((tjU 11 (digs r.toNat) b).S (j,c,d))))=some (.p (ti_b11_nd p q a b i x R s r n j c d)):=by kernel_rfl
def tk_b11_nd (lt:Bool) (p q:Bool) (a b:List Int) (i x:Int) (R:List Int) (s:List Int) (r n:Int):Prop:=((((((0:Int)<=(0:Int)/\(0:Int)<=(↑(digs r.toNat).length:Int)/\(0:Int)+(↑(digs r.toNat).length:Int)<=(↑(digs r.toNat).length:Int))/\(↑b.length:Int)=(↑b.length:Int))/\Sm (List.take (↑(digs r.toNat).length:Int).toNat (List.drop (Int.toNat (0:Int)) (digs r.toNat)))/\Sm b)/\(!lessL (List.take (↑(digs r.toNat).length:Int).toNat (List.drop (Int.toNat (0:Int)) (digs r.toNat))) b)=true)/\(((0:Int)<=IntKind.i64.wrap ((↑b.length:Int) - (1:Int))/\IntKind.i64.wrap ((↑b.length:Int) - (1:Int))<(↑(digs r.toNat).length:Int))/\((0:Int)+IntKind.i64.wrap ((↑b.length:Int) - (1:Int))).toNat<(digs r.toNat).length/\((0:Int)<=IntKind.i64.wrap ((↑b.length:Int) - (1:Int))/\IntKind.i64.wrap ((↑b.length:Int) - (1:Int))<(↑b.length:Int))/\(IntKind.i64.wrap ((↑b.length:Int) - (1:Int))).toNat<b.length/\(decide (IntKind.i64.wrap (IntKind.i64.wrap ((↑b.length:Int) - (1:Int))+(1:Int))<(↑(digs r.toNat).length:Int))=true->((0:Int)<=IntKind.i64.wrap (IntKind.i64.wrap ((↑b.length:Int) - (1:Int))+(1:Int))/\IntKind.i64.wrap (IntKind.i64.wrap ((↑b.length:Int) - (1:Int))+(1:Int))<(↑(digs r.toNat).length:Int))/\((0:Int)+IntKind.i64.wrap (IntKind.i64.wrap ((↑b.length:Int) - (1:Int))+(1:Int))).toNat<(digs r.toNat).length)/\(((IntKind.i64.wrap ((↑b.length:Int) - (1:Int))).toNat<b.length/\b.getD (IntKind.i64.wrap ((↑b.length:Int) - (1:Int))).toNat (0:Int)=b.getD (IntKind.i64.wrap ((↑b.length:Int) - (1:Int))).toNat (0:Int))/\((0:Int)+IntKind.i64.wrap ((↑b.length:Int) - (1:Int))).toNat<(digs r.toNat).length/\(digs r.toNat).getD ((0:Int)+IntKind.i64.wrap ((↑b.length:Int) - (1:Int))).toNat (0:Int)=(digs r.toNat).getD ((0:Int)+IntKind.i64.wrap ((↑b.length:Int) - (1:Int))).toNat (0:Int))/\IntKind.i64.wrap (b.getD (IntKind.i64.wrap ((↑b.length:Int) - (1:Int))).toNat (0:Int)+(1:Int))≠(0:Int))/\At (tkFr) (tkFr) (tkB) (tkB) (tiS p q a b i x R (some s) (some (r,n))) (tiS p q a b i x R (some s) (some (r,n)))/\((0:Int)<=(0:Int)/\(0:Int)<=(↑(digs r.toNat).length:Int)/\(0:Int)+(↑(digs r.toNat).length:Int)<=(↑(padL (tkD R (some (r,n))).length (val (tkD R (some (r,n))) - tkK (tkD R (some (r,n))) b*val b)).length:Int))/\Dig (List.take (↑(digs r.toNat).length:Int).toNat (List.drop (Int.toNat (0:Int)) (padL (tkD R (some (r,n))).length (val (tkD R (some (r,n))) - tkK (tkD R (some (r,n))) b*val b))))/\Sm (List.take (↑(digs r.toNat).length:Int).toNat (List.drop (Int.toNat (0:Int)) (padL (tkD R (some (r,n))).length (val (tkD R (some (r,n))) - tkK (tkD R (some (r,n))) b*val b)))))/\(true=true->((((0:Int)=(0:Int)/\(↑(digs (val (List.take (↑(digs r.toNat).length:Int).toNat (List.drop (Int.toNat (0:Int)) (padL (tkD R (some (r,n))).length (val (tkD R (some (r,n))) - tkK (tkD R (some (r,n))) b*val b))))).toNat).length:Int)=(↑(digs (r - tkK (digs r.toNat) b*val b).toNat).length:Int))/\IntKind.i64.wrap (n+tkK (digs r.toNat) b)=IntKind.i64.wrap (n+tkK (digs r.toNat) b))/\digs (val (List.take (↑(digs r.toNat).length:Int).toNat (List.drop (Int.toNat (0:Int)) (padL (tkD R (some (r,n))).length (val (tkD R (some (r,n))) - tkK (tkD R (some (r,n))) b*val b))))).toNat=digs (r - tkK (digs r.toNat) b*val b).toNat)/\(tkU true lt R b).I ((tkU true lt R b).next (some (r,n)))/\(tkU true lt R b).μ ((tkU true lt R b).next (some (r,n)))<(tkU true lt R b).μ (some (r,n))/\(tkU true lt R b).F ((tkU true lt R b).next (some (r,n)))=(tkU true lt R b).F (some (r,n)))
theorem tk_b11 (lt:Bool) (p q:Bool) (a b:List Int) (i x:Int) (R:List Int) (s:List Int) (r n:Int):chkR (tkS p q a b i x R (some s)) ((tkU true lt R b).way ((some (r,n)))) ((run (cTi p q a b i x R (some s) (some (r,n))) 300).code tkFr tkA (patch (tkS p q a b i x R (some s)) ((tkU true lt R b).S (some (r,n)))))=some (.p (tk_b11_nd lt p q a b i x R s r n)):=by kernel_rfl
def tk_e11_nd (lt:Bool) (p q:Bool) (a b:List Int) (i x:Int) (R:List Int) (s:List Int) (r n:Int):Prop:=(((((0:Int)<=(0:Int)/\(0:Int)<=(↑(digs r.toNat).length:Int)/\(0:Int)+(↑(digs r.toNat).length:Int)<=(↑(digs r.toNat).length:Int))/\(↑b.length:Int)=(↑b.length:Int))/\Sm (List.take (↑(digs r.toNat).length:Int).toNat (List.drop (Int.toNat (0:Int)) (digs r.toNat)))/\Sm b)/\(!lessL (List.take (↑(digs r.toNat).length:Int).toNat (List.drop (Int.toNat (0:Int)) (digs r.toNat))) b)=false)/\(true=true->((((0:Int)=(0:Int)/\(↑(digs r.toNat).length:Int)=(↑(digs r.toNat).length:Int))/\n=n)/\digs r.toNat=digs r.toNat)/\(tkU true lt R b).F (some (r,n))=(Ex.exit (0:Nat),tkP true (some (r,n))))
theorem tk_e11 (lt:Bool) (p q:Bool) (a b:List Int) (i x:Int) (R:List Int) (s:List Int) (r n:Int):chkR (tkS p q a b i x R (some s)) ((tkU true lt R b).way ((some (r,n)))) ((run cTe 300).code tkFr tkA (patch (tkS p q a b i x R (some s)) ((tkU true lt R b).S (some (r,n)))))=some (.p (tk_e11_nd lt p q a b i x R s r n)):=by kernel_rfl
def tk_s1_nd (lt:Bool) (p q:Bool) (a b:List Int) (i x:Int) (R:List Int) (s:List Int):Prop:=(0:Int)=(0:Int)
theorem tk_s1 (lt:Bool) (p q:Bool) (a b:List Int) (i x:Int) (R:List Int) (s:List Int):fit (tkS p q a b i x R (some s)) (tkS p q a b i x R (some s)) (patch (tkS p q a b i x R (some s)) ((tkU true lt R b).S none)) ([])=some (.p (tk_s1_nd lt p q a b i x R s)):=by kernel_rfl
end
end Go.Proofs.YtjcicegihechmaaGreatDoor.K
namespace Go.Proofs.YtjcicegihechmaaGreatDoor.K
open Go Go.Eng Go.Dg
noncomputable section
def tj_nd (id:Nat) (D b:List Int) (j c:Int) (d:List Int):Prop:=(decide (j<(↑D.length:Int))=true->(((0:Int)<=j/\j<(↑D.length:Int))/\((0:Int)+j).toNat<d.length/\(decide (j<(↑b.length:Int))=true->((0:Int)<=j/\j<(↑b.length:Int))/\j.toNat<b.length)/\((0:Int)+j).toNat<d.length/\d.getD ((0:Int)+j).toNat (0:Int)=d.getD ((0:Int)+j).toNat (0:Int))/\((0:Int)<=j/\j<(↑D.length:Int))/\((0:Int)+j).toNat<d.length)/\((!decide (j<(↑D.length:Int)))=true->d=d/\(tjU id D b).F (j,c,d)=(Ex.exit (2:Nat),tjF id d))/\(decide (j<(↑D.length:Int))=true->(((tjC (tjX2 b (tkK D b) j c d))=tjC (tjX2 b (tkK D b) j c d)/\IntKind.i64.wrap (j+(1:Int))=IntKind.i64.wrap (j+(1:Int)))/\d.set ((0:Int)+j).toNat (tjR (tjX2 b (tkK D b) j c d))=d.set ((0:Int)+j).toNat (tjR (tjX2 b (tkK D b) j c d)))/\(tjU id D b).I ((tjU id D b).next (j,c,d))/\(tjU id D b).μ ((tjU id D b).next (j,c,d))<(tjU id D b).μ (j,c,d)/\(tjU id D b).F ((tjU id D b).next (j,c,d))=(tjU id D b).F (j,c,d))
def tkA_nd (D b:List Int):Prop:=(((((0:Int)<=(0:Int)/\(0:Int)<=(↑D.length:Int)/\(0:Int)+(↑D.length:Int)<=(↑D.length:Int))/\(↑b.length:Int)=(↑b.length:Int))/\Sm (List.take (↑D.length:Int).toNat (List.drop (Int.toNat (0:Int)) D))/\Sm b)/\(!lessL (List.take (↑D.length:Int).toNat (List.drop (Int.toNat (0:Int)) D)) b)=true)/\(((0:Int)<=IntKind.i64.wrap ((↑b.length:Int) - (1:Int))/\IntKind.i64.wrap ((↑b.length:Int) - (1:Int))<(↑D.length:Int))/\((0:Int)+IntKind.i64.wrap ((↑b.length:Int) - (1:Int))).toNat<D.length/\((0:Int)<=IntKind.i64.wrap ((↑b.length:Int) - (1:Int))/\IntKind.i64.wrap ((↑b.length:Int) - (1:Int))<(↑b.length:Int))/\(IntKind.i64.wrap ((↑b.length:Int) - (1:Int))).toNat<b.length/\(decide (IntKind.i64.wrap (IntKind.i64.wrap ((↑b.length:Int) - (1:Int))+(1:Int))<(↑D.length:Int))=true->((0:Int)<=IntKind.i64.wrap (IntKind.i64.wrap ((↑b.length:Int) - (1:Int))+(1:Int))/\IntKind.i64.wrap (IntKind.i64.wrap ((↑b.length:Int) - (1:Int))+(1:Int))<(↑D.length:Int))/\((0:Int)+IntKind.i64.wrap (IntKind.i64.wrap ((↑b.length:Int) - (1:Int))+(1:Int))).toNat<D.length)/\(((IntKind.i64.wrap ((↑b.length:Int) - (1:Int))).toNat<b.length/\b.getD (IntKind.i64.wrap ((↑b.length:Int) - (1:Int))).toNat (0:Int)=b.getD (IntKind.i64.wrap ((↑b.length:Int) - (1:Int))).toNat (0:Int))/\((0:Int)+IntKind.i64.wrap ((↑b.length:Int) - (1:Int))).toNat<D.length/\D.getD ((0:Int)+IntKind.i64.wrap ((↑b.length:Int) - (1:Int))).toNat (0:Int)=D.getD ((0:Int)+IntKind.i64.wrap ((↑b.length:Int) - (1:Int))).toNat (0:Int))/\IntKind.i64.wrap (b.getD (IntKind.i64.wrap ((↑b.length:Int) - (1:Int))).toNat (0:Int)+(1:Int))≠(0:Int))
def tkC_nd (D b:List Int):Prop:=((0:Int)<=(0:Int)/\(0:Int)<=(↑D.length:Int)/\(0:Int)+(↑D.length:Int)<=(↑(padL (D).length (val (D) - tkK (D) b*val b)).length:Int))/\Dig (List.take (↑D.length:Int).toNat (List.drop (Int.toNat (0:Int)) (padL (D).length (val (D) - tkK (D) b*val b))))/\Sm (List.take (↑D.length:Int).toNat (List.drop (Int.toNat (0:Int)) (padL (D).length (val (D) - tkK (D) b*val b))))
def tkE_nd (D b:List Int):Prop:=((((0:Int)<=(0:Int)/\(0:Int)<=(↑D.length:Int)/\(0:Int)+(↑D.length:Int)<=(↑D.length:Int))/\(↑b.length:Int)=(↑b.length:Int))/\Sm (List.take (↑D.length:Int).toNat (List.drop (Int.toNat (0:Int)) D))/\Sm b)/\(!lessL (List.take (↑D.length:Int).toNat (List.drop (Int.toNat (0:Int)) D)) b)=false
end
end Go.Proofs.YtjcicegihechmaaGreatDoor.K
namespace Go.Proofs.YtjcicegihechmaaGreatDoor.K
open Go Go.Eng Go.Dg
noncomputable section
structure TkD (D b:List Int):Prop where
 hD:Dig D
 tD:Top D
 sD:D.length<=500000
 hb:Dig b
 tb:Top b
 sb:b.length<=500000
 ne:b≠[]
 lt:val D<1000000000*val b
theorem TkD.spec {D b:List Int} (h:TkD D b) (hge:val b<=val D):1<=tkK D b/\tkK D b<1000000000/\tkK D b*val b<=val D/\b.length<=D.length:=tkK_spec h.hD h.tD h.hb h.tb h.sb h.ne hge h.lt
theorem TkD.pos {D b:List Int} (h:TkD D b):0<val b:=by
 have:=val_nonneg h.hb
 have:=val_ne h.hb h.tb h.ne
 omega
theorem tjX2_eq (b:List Int) (k j c:Int) (d:List Int):tjX2 b k j c d=tjX b k j c d:=by
 unfold tjX2 tjX
 rw [show (0+j)=j by omega]
theorem tj_cond {id:Nat} {D b:List Int} (h:TkD D b) (hge:val b<=val D) {j c:Int} {d:List Int} (hI:tjI D b (tkK D b) j c d):tj_nd id D b j c d:=by
 obtain ⟨k1,k2,k3,k4⟩:=h.spec hge
 have hv:=h.pos
 obtain ⟨h1,h2,h3,h4,h5,h6,h7⟩:=_root_.id hI
 have sD:=h.sD
 have e0:(0+j).toNat=j.toNat:=by omega
 refine ⟨fun hj=>?_,fun hj=>⟨rfl,?_⟩,fun hj=>?_⟩
 .have hj:=dt.1 hj
  rw [e0]
  refine ⟨⟨⟨h3,hj⟩,by omega,fun hb=>?_,by omega,rfl⟩,⟨h3,hj⟩,by omega⟩
  have hb:=dt.1 hb
  exact ⟨⟨h3,hb⟩,by omega⟩
 .have hj:=ndt.1 hj
  have:j=D.length:=by omega
  subst this
  show (Ex.exit 2,tjF id (padL D.length (val D - tkK D b*val b)))=_
  rw [<- tjI_end h.hD k4 k3 (Int.mul_nonneg (by omega) (by omega)) hI]
 .have hj:=dt.1 hj
  have st:=tjI_step h.hb ⟨by omega,k2⟩ hI hj
  have e1:IntKind.i64.wrap (j+1)=j+1:=iw (by omega) (by omega)
  refine ⟨⟨⟨rfl,rfl⟩,rfl⟩,?_,?_,rfl⟩
  .show tjI D b (tkK D b) (IntKind.i64.wrap (j+1)) (tjC (tjX2 b (tkK D b) j c d)) (d.set (0+j).toNat (tjR (tjX2 b (tkK D b) j c d)))
   rw [e0,e1,tjX2_eq]; exact st
  .show (D.length - IntKind.i64.wrap (j+1)).toNat<(D.length - j).toNat
   rw [e1]; omega
theorem ti_loop (p q:Bool) (a:List Int) {b:List Int} (i x:Int) {R:List Int} (o:Option (List Int)) (y:Option (Int×Int)) (h:TkD (tkD R y) b) (hge:val b<=val (tkD R y)):
  CodeOk cTh tkFr (.loop tkB) (tiS p q a b i x R o y) ⟨.tt,[⟨.tt,.exit 2,patch (tiS p q a b i x R o y) (tjF (tkId o.isSome y) (padL (tkD R y).length (val (tkD R y) - tkK (tkD R y) b*val b)))⟩]⟩:=by
 have key:∀ (id:Nat),(Holds (fit (tiS p q a b i x R o y) (tiS p q a b i x R o y) (patch (tiS p q a b i x R o y) ((tjU id (tkD R y) b).S (0,0,tkD R y))) []))->oldsOk (tiS p q a b i x R o y).hp ((tjU id (tkD R y) b).S (0,0,tkD R y)).old=true ->
   (∀ j c d,chkR (tiS p q a b i x R o y) ((tjU id (tkD R y) b).way (j,c,d)) ((run cL2 300).code tkFr tkB (patch (tiS p q a b i x R o y) ((tjU id (tkD R y) b).S (j,c,d))))=some (.p (tj_nd id (tkD R y) b j c d))) ->
   CodeOk cTh tkFr (.loop tkB) (tiS p q a b i x R o y) ⟨.tt,[⟨.tt,.exit 2,patch (tiS p q a b i x R o y) (tjF id (padL (tkD R y).length (val (tkD R y) - tkK (tkD R y) b*val b)))⟩]⟩:=by
  intro id h1 h2 h3
  exact sumL_oneC (tjU id (tkD R y) b) (y0:=(0,0,tkD R y)) (tjI_start h.hD) h1 h2 (fun z hz=>by
   obtain ⟨j,c,d⟩:=z
   exact ⟨cL2,300,cL2_ok,rfl,rfl,_,h3 j c d,tj_cond h hge hz⟩) rfl
 cases o with
 | none=>cases y with
  | none=>exact key 8 ⟨_,ti_s00 p q a b i x R,⟨⟨rfl,rfl⟩,rfl⟩⟩ (by kernel_rfl) (fun j c d=>ti_b00 p q a b i x R j c d)
  | some y=>exact key 9 ⟨_,ti_s01 p q a b i x R y.1 y.2,⟨⟨rfl,rfl⟩,rfl⟩⟩ (by kernel_rfl) (fun j c d=>ti_b01 p q a b i x R y.1 y.2 j c d)
 | some s=>cases y with
  | none=>exact key 10 ⟨_,ti_s10 p q a b i x R s,⟨⟨rfl,rfl⟩,rfl⟩⟩ (by kernel_rfl) (fun j c d=>ti_b10 p q a b i x R s j c d)
  | some y=>exact key 11 ⟨_,ti_s11 p q a b i x R s y.1 y.2,⟨⟨rfl,rfl⟩,rfl⟩⟩ (by kernel_rfl) (fun j c d=>ti_b11 p q a b i x R s y.1 y.2 j c d)
theorem cTi_ok (p q:Bool) (a:List Int) {b:List Int} (i x:Int) {R:List Int} (o:Option (List Int)) (y:Option (Int×Int)) (h:TkD (tkD R y) b) (hge:val b<=val (tkD R y)):CtxOk (cTi p q a b i x R o y):=
 withLoop_ok cTh_ok (ti_loop p q a i x o y h hge) (withNone_ok cTh_ok)
theorem lessn {D b:List Int} (h:TkD D b) (hge:val b<=val D):lessL D b=false:=by
 cases e:lessL D b with
 | false=>rfl
 | true=>have:=(lessL_iff h.hD h.hb h.tD h.tb).1 e; omega
theorem tkA_cond {D b:List Int} (h:TkD D b) (hge:val b<=val D):tkA_nd D b:=by
 obtain ⟨k1,k2,k3,k4⟩:=h.spec hge
 have sD:=h.sD
 have sb:=h.sb
 have hp:=List.length_pos_iff.2 h.ne
 have e1:IntKind.i64.wrap ((b.length:Int) - 1)=b.length - 1:=iw (by omega) (by omega)
 have e2:IntKind.i64.wrap ((b.length:Int) - 1+1)=b.length:=by rw [iw (by omega) (by omega)]; omega
 have g:=h.hb.get (b.length - 1)
 have e3:IntKind.i64.wrap (b.getD (b.length - 1) 0+1)=b.getD (b.length - 1) 0+1:=iw (by omega) (by omega)
 unfold tkA_nd
 rw [td,e1,e2,show (0+((b.length:Int) - 1)).toNat=b.length - 1 by omega,show ((b.length:Int) - 1).toNat=b.length - 1 by omega,show (0+(b.length:Int)).toNat=b.length by omega,e3]
 refine ⟨⟨⟨⟨lenp,rfl⟩,h.sD,h.sb⟩,by rw [lessn h hge]; rfl⟩,⟨by omega,by omega⟩,by omega,⟨by omega,by omega⟩,by omega,fun hlt=>?_,⟨⟨by omega,rfl⟩,by omega,rfl⟩,by omega⟩
 have:=dt.1 hlt
 exact ⟨⟨by omega,this⟩,by omega⟩
theorem tk_pad {D b:List Int} (h:TkD D b) (hge:val b<=val D):List.take (D.length:Int).toNat (List.drop (Int.toNat 0) (padL D.length (val D - tkK D b*val b)))=padL D.length (val D - tkK D b*val b)/\val (padL D.length (val D - tkK D b*val b))=val D - tkK D b*val b:=by
 obtain ⟨k1,k2,k3,k4⟩:=h.spec hge
 have hv:=h.pos
 have:=val_lt h.hD
 have m:=Int.mul_nonneg (show 0<=tkK D b by omega) (show 0<=val b by omega)
 have e:=td (padL D.length (val D - tkK D b*val b))
 rw [padL_len] at e
 exact ⟨e,padL_val (by omega) (by omega)⟩
theorem tkC_cond {D b:List Int} (h:TkD D b) (hge:val b<=val D):tkC_nd D b:=by
 obtain ⟨e1,e2⟩:=tk_pad h hge
 have sD:=h.sD
 unfold tkC_nd
 rw [e1]
 exact ⟨by rw [padL_len]; omega,padL_dig _ _,by show _<=500000; rw [padL_len]; exact sD⟩
theorem tkE_cond {D b:List Int} (h:TkD D b) (hlt:val D<val b):tkE_nd D b:=by
 unfold tkE_nd
 rw [td]
 exact ⟨⟨⟨lenp,rfl⟩,h.sD,h.sb⟩,by rw [(lessL_iff h.hD h.hb h.tD h.tb).2 hlt]; rfl⟩
end
end Go.Proofs.YtjcicegihechmaaGreatDoor.K
namespace Go.Proofs.YtjcicegihechmaaGreatDoor.K
open Go Go.Eng Go.Dg
noncomputable section
theorem tkD_ok {R b:List Int} (h:TkD R b):∀ {y:Option (Int×Int)} {w lt:Bool},(tkU w lt R b).I y->TkD (tkD R y) b
 | none,_,_,_=>h
 | some (r,n),_,_,hI=>by
  obtain ⟨h1,h2,h3,h4⟩:=(show 0<=r/\0<=n/\r+n*val b=val R/\_ from hI)
  have hv:=h.pos
  have m:=Int.mul_nonneg h2 (show 0<=val b by omega)
  have hlt:=val_lt h.hD
  have sD:=h.sD
  have lt:=h.lt
  have e:(r.toNat:Int)=r:=by omega
  refine ⟨dig_digs _,top_digs _,?_,h.hb,h.tb,h.sb,h.ne,?_⟩
  .have:=len_digs (n:=r.toNat) (k:=R.length) (by omega)
   show (digs r.toNat).length<=500000
   omega
  .show val (digs r.toNat)<_
   rw [val_digs]; omega
theorem tkD_val {R b:List Int} {r n:Int} {w lt:Bool} (hI:(tkU w lt R b).I (some (r,n))):val (digs r.toNat)=r:=by
 obtain ⟨h1,_⟩:=(show 0<=r/\0<=n/\r+n*val b=val R/\_ from hI)
 rw [val_digs]; omega
theorem tk_next {D b:List Int} (h:TkD D b) (hge:val b<=val D):digs (val (List.take (D.length:Int).toNat (List.drop (Int.toNat 0) (padL D.length (val D - tkK D b*val b))))).toNat=digs (val D - tkK D b*val b).toNat:=by
 obtain ⟨e1,e2⟩:=tk_pad h hge
 rw [e1,e2]
theorem tk_loop (p q:Bool) (a:List Int) {b:List Int} (i x:Int) {R:List Int} (o:Option (List Int)) (h:TkD R b) {lt:Bool} (hl:lt=decide (val R<val b)):
  CodeOk cL2 tkFr (.loop tkA) (tkS p q a b i x R o) ⟨.tt,[⟨.tt,.exit 0,patch (tkS p q a b i x R o) (tkP o.isSome (tkE R b lt))⟩]⟩:=by
 have hv:=h.pos
 have q1:∀ w,val b<=val R->(tkU w lt R b).I (some (val R - tkK R b*val b,IntKind.i64.wrap (0+tkK R b)))/\(val R - tkK R b*val b).toNat<(val R).toNat+1:=by
  intro w hge
  obtain ⟨k1,k2,k3,k4⟩:=h.spec hge
  have e:IntKind.i64.wrap (0+tkK R b)=tkK R b:=by rw [iw (by omega) (by omega)]; omega
  have m:=Int.mul_nonneg (show 0<=tkK R b by omega) (show 0<=val b by omega)
  refine ⟨?_,by omega⟩
  show 0<=val R - tkK R b*val b/\0<=IntKind.i64.wrap (0+tkK R b)/\val R - tkK R b*val b+IntKind.i64.wrap (0+tkK R b)*val b=val R/\lt=false
  rw [e]
  exact ⟨by omega,by omega,by omega,by rw [hl]; exact decide_eq_false (by omega)⟩
 have q2:∀ w r n,(tkU w lt R b).I (some (r,n))->val b<=r->(tkU w lt R b).I (some (r - tkK (digs r.toNat) b*val b,IntKind.i64.wrap (n+tkK (digs r.toNat) b)))/\(r - tkK (digs r.toNat) b*val b).toNat<r.toNat:=by
  intro w r n hI hge
  have hD:TkD (digs r.toNat) b:=tkD_ok h hI
  have ev:=tkD_val hI
  obtain ⟨k1,k2,k3,k4⟩:=hD.spec (by rw [ev]; exact hge)
  obtain ⟨h1,h2,h3,h4⟩:=(show 0<=r/\0<=n/\r+n*val b=val R/\lt=false from hI)
  rw [ev] at k3
  have hlt:=h.lt
  have m1:1*val b<=tkK (digs r.toNat) b*val b:=Int.mul_le_mul_of_nonneg_right k1 (by omega)
  have m2:(n+tkK (digs r.toNat) b)*val b<1000000000*val b:=by rw [Int.add_mul]; omega
  have m3:=Int.lt_of_mul_lt_mul_right m2 (by omega)
  have e:IntKind.i64.wrap (n+tkK (digs r.toNat) b)=n+tkK (digs r.toNat) b:=iw (by omega) (by omega)
  refine ⟨?_,by omega⟩
  show 0<=r - tkK (digs r.toNat) b*val b/\0<=IntKind.i64.wrap (n+tkK (digs r.toNat) b)/\r - tkK (digs r.toNat) b*val b+IntKind.i64.wrap (n+tkK (digs r.toNat) b)*val b=val R/\lt=false
  rw [e,Int.add_mul]
  exact ⟨by omega,by omega,by omega,h4⟩
 have q3:val R<val b->tkE R b lt=none:=by
  intro h; rw [hl,decide_eq_true h]; rfl
 have q4:∀ w r n,(tkU w lt R b).I (some (r,n))->r<val b->tkE R b lt=some (r,n):=by
  intro w r n hI hlt
  obtain ⟨h1,h2,h3,h4⟩:=(show 0<=r/\0<=n/\r+n*val b=val R/\lt=false from hI)
  rw [h4]
  show some (val R % val b,val R / val b)=some (r,n)
  rw [<- h3,Int.add_mul_emod_self_right,Int.emod_eq_of_lt h1 hlt,Int.add_mul_ediv_right _ _ (by omega),Int.ediv_eq_zero_of_lt h1 hlt]
  simp
 cases o with
 | none=>
  refine sumL_oneC (tkU false lt R b) (y0:=none) trivial ⟨_,tk_s0 lt p q a b i x R,rfl⟩ (by kernel_rfl) (fun y hy=>?_) rfl
  have hD:=tkD_ok h hy
  cases y with
  | none=>
   by_cases hge:val b<=val R
   .obtain ⟨r1,r2⟩:=q1 false hge
    exact ⟨cTi p q a b i x R none none,300,cTi_ok p q a i x none none h hge,rfl,rfl,_,tk_b00 lt p q a b i x R,⟨(tkA_cond h hge).1,(tkA_cond h hge).2,⟨rfl,rfl,rfl⟩,tkC_cond h hge⟩,fun _=>⟨⟨⟨⟨rfl,by rw [show tkD R none=R from rfl,tk_next h hge]⟩,rfl⟩,tk_next h hge⟩,r1,r2,rfl⟩⟩
   .exact ⟨cTe,300,cTe_ok,rfl,rfl,_,tk_e00 lt p q a b i x R,tkE_cond h (by omega),fun _=>⟨rfl,by show (Ex.exit 0,tkP false (tkE R b lt))=_; rw [q3 (by omega)]⟩⟩
  | some y=>
   obtain ⟨r,n⟩:=y
   have ev:=tkD_val hy
   have hD:TkD (digs r.toNat) b:=hD
   by_cases hge:val b<=r
   .obtain ⟨r1,r2⟩:=q2 false r n hy hge
    have hge2:val b<=val (digs r.toNat):=by rw [ev]; exact hge
    have nx:=tk_next hD hge2
    rw [ev] at nx
    have nx2:digs (val (List.take ((digs r.toNat).length:Int).toNat (List.drop (Int.toNat 0) (padL (tkD R (some (r,n))).length (val (tkD R (some (r,n))) - tkK (tkD R (some (r,n))) b*val b))))).toNat=digs (r - tkK (digs r.toNat) b*val b).toNat:=by
     rw [show tkD R (some (r,n))=digs r.toNat from rfl,ev]; exact nx
    exact ⟨cTi p q a b i x R none (some (r,n)),300,cTi_ok p q a i x none (some (r,n)) hD hge2,rfl,rfl,_,tk_b01 lt p q a b i x R r n,⟨(tkA_cond hD hge2).1,(tkA_cond hD hge2).2,⟨rfl,rfl,rfl⟩,tkC_cond hD hge2⟩,fun _=>⟨⟨⟨⟨rfl,by rw [nx2]⟩,rfl⟩,nx2⟩,r1,r2,rfl⟩⟩
   .exact ⟨cTe,300,cTe_ok,rfl,rfl,_,tk_e01 lt p q a b i x R r n,tkE_cond hD (by rw [ev]; omega),fun _=>⟨⟨⟨⟨rfl,rfl⟩,rfl⟩,rfl⟩,by show (Ex.exit 0,tkP false (tkE R b lt))=_; rw [q4 false r n hy (by omega)]⟩⟩
 | some s=>
  refine sumL_oneC (tkU true lt R b) (y0:=none) trivial ⟨_,tk_s1 lt p q a b i x R s,rfl⟩ (by kernel_rfl) (fun y hy=>?_) rfl
  have hD:=tkD_ok h hy
  cases y with
  | none=>
   by_cases hge:val b<=val R
   .obtain ⟨r1,r2⟩:=q1 true hge
    exact ⟨cTi p q a b i x R (some s) none,300,cTi_ok p q a i x (some s) none h hge,rfl,rfl,_,tk_b10 lt p q a b i x R s,⟨(tkA_cond h hge).1,(tkA_cond h hge).2,⟨rfl,rfl,rfl⟩,tkC_cond h hge⟩,fun _=>⟨⟨⟨⟨rfl,by rw [show tkD R none=R from rfl,tk_next h hge]⟩,rfl⟩,tk_next h hge⟩,r1,r2,rfl⟩⟩
   .exact ⟨cTe,300,cTe_ok,rfl,rfl,_,tk_e10 lt p q a b i x R s,tkE_cond h (by omega),fun _=>⟨rfl,by show (Ex.exit 0,tkP true (tkE R b lt))=_; rw [q3 (by omega)]⟩⟩
  | some y=>
   obtain ⟨r,n⟩:=y
   have ev:=tkD_val hy
   have hD:TkD (digs r.toNat) b:=hD
   by_cases hge:val b<=r
   .obtain ⟨r1,r2⟩:=q2 true r n hy hge
    have hge2:val b<=val (digs r.toNat):=by rw [ev]; exact hge
    have nx:=tk_next hD hge2
    rw [ev] at nx
    have nx2:digs (val (List.take ((digs r.toNat).length:Int).toNat (List.drop (Int.toNat 0) (padL (tkD R (some (r,n))).length (val (tkD R (some (r,n))) - tkK (tkD R (some (r,n))) b*val b))))).toNat=digs (r - tkK (digs r.toNat) b*val b).toNat:=by
     rw [show tkD R (some (r,n))=digs r.toNat from rfl,ev]; exact nx
    exact ⟨cTi p q a b i x R (some s) (some (r,n)),300,cTi_ok p q a i x (some s) (some (r,n)) hD hge2,rfl,rfl,_,tk_b11 lt p q a b i x R s r n,⟨(tkA_cond hD hge2).1,(tkA_cond hD hge2).2,⟨rfl,rfl,rfl⟩,tkC_cond hD hge2⟩,fun _=>⟨⟨⟨⟨rfl,by rw [nx2]⟩,rfl⟩,nx2⟩,r1,r2,rfl⟩⟩
   .exact ⟨cTe,300,cTe_ok,rfl,rfl,_,tk_e11 lt p q a b i x R s r n,tkE_cond hD (by rw [ev]; omega),fun _=>⟨⟨⟨⟨rfl,rfl⟩,rfl⟩,rfl⟩,by show (Ex.exit 0,tkP true (tkE R b lt))=_; rw [q4 true r n hy (by omega)]⟩⟩
end
end Go.Proofs.YtjcicegihechmaaGreatDoor.K
namespace Go.Proofs.YtjcicegihechmaaGreatDoor.K
open Go Go.Eng Go.Dg
noncomputable section
def paO (a b:List Int):Option Int->Option (List Int)
 | none=>none
 | some i=>some (paR a b i)
def paI (a:List Int):Option Int->Int
 | none=>a.length - 1
 | some i=>i
def paX (a:List Int) (y:Option Int):Int:=a.getD (paI a y).toNat 0
def paT (a b:List Int) (y:Option Int):List Int:=tkR (paX a y) (paO a b y)
def paN (a:List Int):Option Int->Int
 | none=>IntKind.i64.wrap ((a.length:Int) - 1 - 1)
 | some i=>IntKind.i64.wrap (i - 1)
def paE (a b:List Int):Patch:=⟨(7,.islice true 7 0 (paR a b (-1)).length) :: (8,.any false) :: (9,.any false) :: deadT 18 24,[(6,.ints .i64 (paQ a b (-1)))],[.ints .i64 (paR a b (-1))]⟩
def paU (a b:List Int):SumL (Option Int×Bool):=
 {
  S:=fun (y,_)=>paP a b y
  I:=fun (y,l)=>l=decide (val (paT a b y)<val b)/\-1<=paI a y/\paI a y<a.length/\(y=none->0<=paI a y)
  μ:=fun (y,_)=>(paI a y+1).toNat
  F:=fun _=>(.exit 0,paE a b)
  next:=fun (y,_)=>(some (paN a y),decide (val (paT a b (some (paN a y)))<val b))
  ids:=fun (y,l)=>match y with
   | none=>(match l with|true=>[8]|false=>[9])
   | some _=>(match l with|true=>[10]|false=>[11])
  X:=fun (y,_) _=>match y with
   | none=>some (⟨(7,.any false) :: (8,.any false) :: (9,.any false) :: deadT 18 24,[(6,.dead)],[]⟩,[])
   | some i=>some (⟨(7,.islice true 7 0 (paR a b i).length) :: (8,.any false) :: (9,.any false) :: deadT 18 24,[(6,.ints .i64 (paQ a b i))],[.ints .i64 (paR a b i)]⟩,[7]) }
def cHt (t:Nat):Ctx:=hinting cL2 (hintsT [(t,.bool false true)])
theorem cHt_ok (t:Nat):CtxOk (cHt t):=hinting_ok cL2_ok _
noncomputable def cPa (p q:Bool) (a b:List Int) (y:Option Int) (l:Bool):Ctx:=withLoops (cHt 19) [oneLoop 166 44 tkFr tkA (tkS p q a b (paI a y) (paX a y) (paT a b y) (paO a b y)) (.exit 0) (tkP (paO a b y).isSome (tkE (paT a b y) b l))]
noncomputable def cPaL (p q:Bool) (a b:List Int):Ctx:=withLoops cL2 [oneLoop 142 (paS p q a b).hp.clock paFr paA (paS p q a b) (.exit 0) (paE a b)]
end
end Go.Proofs.YtjcicegihechmaaGreatDoor.K
namespace Go.Proofs.YtjcicegihechmaaGreatDoor.K
open Go Go.Eng Go.Dg
noncomputable section
def pa_start_nd (p q:Bool) (a b:List Int):Prop:=IntKind.i64.wrap ((↑a.length:Int) - (1:Int))=(↑a.length:Int) - (1:Int)/\List.replicate (↑a.length:Int).toNat (0:Int)=paQ a b ((↑a.length:Int) - (1:Int))
theorem pa_start (p q:Bool) (a b:List Int):fit (paS p q a b) (paS p q a b) (patch (paS p q a b) (paP a b none)) ([])=some (.p (pa_start_nd p q a b)):=by kernel_rfl
def pa_b0t_nd (p q:Bool) (a b:List Int):Prop:=(decide ((↑a.length:Int) - (1:Int)>=(0:Int))=true/\(((0:Int)<=(↑a.length:Int) - (1:Int)/\(↑a.length:Int) - (1:Int)<(↑a.length:Int))/\((↑a.length:Int) - (1:Int)).toNat<a.length)/\(Dig [a.getD ((↑a.length:Int) - (1:Int)).toNat (0:Int)]/\Sm [a.getD ((↑a.length:Int) - (1:Int)).toNat (0:Int)])/\(↑b.length:Int)=(↑b.length:Int)/\At (tkFr) (tkFr) (tkA) (tkA) (tkS p q a b (paI a none) (paX a none) (paT a b none) (paO a b none)) (tkS p q a b (paI a none) (paX a none) (paT a b none) (paO a b none))/\((0:Int)<=(↑a.length:Int) - (1:Int)/\(↑a.length:Int) - (1:Int)<(↑a.length:Int))/\((0:Int)+((↑a.length:Int) - (1:Int))).toNat<(paQ a b (paI a none)).length)/\(true=true->((((0:Int)=(0:Int)/\(↑(paT a b none).length:Int)=(↑(paR a b (paN a none)).length:Int))/\IntKind.i64.wrap ((↑a.length:Int) - (1:Int) - (1:Int))=paN a none)/\(paQ a b (paI a none)).set ((0:Int)+((↑a.length:Int) - (1:Int))).toNat (0:Int)=paQ a b (paN a none)/\paT a b none=paR a b (paN a none))/\(paU a b).I ((paU a b).next (none,true))/\(paU a b).μ ((paU a b).next (none,true))<(paU a b).μ (none,true)/\(paU a b).F ((paU a b).next (none,true))=(paU a b).F (none,true))
theorem pa_b0t (p q:Bool) (a b:List Int):chkR (paS p q a b) ((paU a b).way ((none,true))) ((run (cPa p q a b none true) 300).code paFr paA (patch (paS p q a b) ((paU a b).S (none,true))))=some (.p (pa_b0t_nd p q a b)):=by kernel_rfl
def pa_b0f_nd (p q:Bool) (a b:List Int):Prop:=(decide ((↑a.length:Int) - (1:Int)>=(0:Int))=true/\(((0:Int)<=(↑a.length:Int) - (1:Int)/\(↑a.length:Int) - (1:Int)<(↑a.length:Int))/\((↑a.length:Int) - (1:Int)).toNat<a.length)/\(Dig [a.getD ((↑a.length:Int) - (1:Int)).toNat (0:Int)]/\Sm [a.getD ((↑a.length:Int) - (1:Int)).toNat (0:Int)])/\(↑b.length:Int)=(↑b.length:Int)/\At (tkFr) (tkFr) (tkA) (tkA) (tkS p q a b (paI a none) (paX a none) (paT a b none) (paO a b none)) (tkS p q a b (paI a none) (paX a none) (paT a b none) (paO a b none))/\((0:Int)<=(↑a.length:Int) - (1:Int)/\(↑a.length:Int) - (1:Int)<(↑a.length:Int))/\((0:Int)+((↑a.length:Int) - (1:Int))).toNat<(paQ a b (paI a none)).length)/\(true=true->((((0:Int)=(0:Int)/\(↑(digs (val (paT a b none) % val b).toNat).length:Int)=(↑(paR a b (paN a none)).length:Int))/\IntKind.i64.wrap ((↑a.length:Int) - (1:Int) - (1:Int))=paN a none)/\(paQ a b (paI a none)).set ((0:Int)+((↑a.length:Int) - (1:Int))).toNat (val (paT a b none) / val b)=paQ a b (paN a none)/\digs (val (paT a b none) % val b).toNat=paR a b (paN a none))/\(paU a b).I ((paU a b).next (none,false))/\(paU a b).μ ((paU a b).next (none,false))<(paU a b).μ (none,false)/\(paU a b).F ((paU a b).next (none,false))=(paU a b).F (none,false))
theorem pa_b0f (p q:Bool) (a b:List Int):chkR (paS p q a b) ((paU a b).way ((none,false))) ((run (cPa p q a b none false) 300).code paFr paA (patch (paS p q a b) ((paU a b).S (none,false))))=some (.p (pa_b0f_nd p q a b)):=by kernel_rfl
def pa_b1t_nd (p q:Bool) (a b:List Int) (i:Int):Prop:=(decide (i>=(0:Int))=true/\(((0:Int)<=i/\i<(↑a.length:Int))/\i.toNat<a.length/\((0:Int)<=(0:Int)/\(0:Int)<=(↑(paR a b i).length:Int)/\(0:Int)+(↑(paR a b i).length:Int)<=(↑(paR a b i).length:Int))/\(↑(1:Nat):Int)+(↑(paR a b i).length:Int)<=(1048576:Int))/\(((0:Int)<=(0:Int)/\(0:Int)<=(↑(1:Nat):Int)+(↑(paR a b i).length:Int)/\(0:Int)+((↑(1:Nat):Int)+(↑(paR a b i).length:Int))<=(↑([a.getD i.toNat (0:Int)]++List.take (↑(paR a b i).length:Int).toNat (List.drop (Int.toNat (0:Int)) (paR a b i))).length:Int))/\Dig (List.take ((↑(1:Nat):Int)+(↑(paR a b i).length:Int)).toNat (List.drop (Int.toNat (0:Int)) ([a.getD i.toNat (0:Int)]++List.take (↑(paR a b i).length:Int).toNat (List.drop (Int.toNat (0:Int)) (paR a b i)))))/\Sm (List.take ((↑(1:Nat):Int)+(↑(paR a b i).length:Int)).toNat (List.drop (Int.toNat (0:Int)) ([a.getD i.toNat (0:Int)]++List.take (↑(paR a b i).length:Int).toNat (List.drop (Int.toNat (0:Int)) (paR a b i))))))/\(↑b.length:Int)=(↑b.length:Int)/\At (tkFr) (tkFr) (tkA) (tkA) (tkS p q a b (paI a (some i)) (paX a (some i)) (paT a b (some i)) (paO a b (some i))) (tkS p q a b (paI a (some i)) (paX a (some i)) (paT a b (some i)) (paO a b (some i)))/\((0:Int)<=i/\i<(↑a.length:Int))/\((0:Int)+i).toNat<(paQ a b (paI a (some i))).length)/\(true=true->((((0:Int)=(0:Int)/\(↑(paT a b (some i)).length:Int)=(↑(paR a b (paN a (some i))).length:Int))/\IntKind.i64.wrap (i - (1:Int))=paN a (some i))/\(paQ a b (paI a (some i))).set ((0:Int)+i).toNat (0:Int)=paQ a b (paN a (some i))/\paT a b (some i)=paR a b (paN a (some i)))/\(paU a b).I ((paU a b).next (some i,true))/\(paU a b).μ ((paU a b).next (some i,true))<(paU a b).μ (some i,true)/\(paU a b).F ((paU a b).next (some i,true))=(paU a b).F (some i,true))
theorem pa_b1t (p q:Bool) (a b:List Int) (i:Int):chkR (paS p q a b) ((paU a b).way (((some i),true))) ((run (cPa p q a b (some i) true) 300).code paFr paA (patch (paS p q a b) ((paU a b).S ((some i),true))))=some (.p (pa_b1t_nd p q a b i)):=by kernel_rfl
def pa_b1f_nd (p q:Bool) (a b:List Int) (i:Int):Prop:=(decide (i>=(0:Int))=true/\(((0:Int)<=i/\i<(↑a.length:Int))/\i.toNat<a.length/\((0:Int)<=(0:Int)/\(0:Int)<=(↑(paR a b i).length:Int)/\(0:Int)+(↑(paR a b i).length:Int)<=(↑(paR a b i).length:Int))/\(↑(1:Nat):Int)+(↑(paR a b i).length:Int)<=(1048576:Int))/\(((0:Int)<=(0:Int)/\(0:Int)<=(↑(1:Nat):Int)+(↑(paR a b i).length:Int)/\(0:Int)+((↑(1:Nat):Int)+(↑(paR a b i).length:Int))<=(↑([a.getD i.toNat (0:Int)]++List.take (↑(paR a b i).length:Int).toNat (List.drop (Int.toNat (0:Int)) (paR a b i))).length:Int))/\Dig (List.take ((↑(1:Nat):Int)+(↑(paR a b i).length:Int)).toNat (List.drop (Int.toNat (0:Int)) ([a.getD i.toNat (0:Int)]++List.take (↑(paR a b i).length:Int).toNat (List.drop (Int.toNat (0:Int)) (paR a b i)))))/\Sm (List.take ((↑(1:Nat):Int)+(↑(paR a b i).length:Int)).toNat (List.drop (Int.toNat (0:Int)) ([a.getD i.toNat (0:Int)]++List.take (↑(paR a b i).length:Int).toNat (List.drop (Int.toNat (0:Int)) (paR a b i))))))/\(↑b.length:Int)=(↑b.length:Int)/\At (tkFr) (tkFr) (tkA) (tkA) (tkS p q a b (paI a (some i)) (paX a (some i)) (paT a b (some i)) (paO a b (some i))) (tkS p q a b (paI a (some i)) (paX a (some i)) (paT a b (some i)) (paO a b (some i)))/\((0:Int)<=i/\i<(↑a.length:Int))/\((0:Int)+i).toNat<(paQ a b (paI a (some i))).length)/\(true=true->((((0:Int)=(0:Int)/\(↑(digs (val (paT a b (some i)) % val b).toNat).length:Int)=(↑(paR a b (paN a (some i))).length:Int))/\IntKind.i64.wrap (i - (1:Int))=paN a (some i))/\(paQ a b (paI a (some i))).set ((0:Int)+i).toNat (val (paT a b (some i)) / val b)=paQ a b (paN a (some i))/\digs (val (paT a b (some i)) % val b).toNat=paR a b (paN a (some i)))/\(paU a b).I ((paU a b).next (some i,false))/\(paU a b).μ ((paU a b).next (some i,false))<(paU a b).μ (some i,false)/\(paU a b).F ((paU a b).next (some i,false))=(paU a b).F (some i,false))
theorem pa_b1f (p q:Bool) (a b:List Int) (i:Int):chkR (paS p q a b) ((paU a b).way (((some i),false))) ((run (cPa p q a b (some i) false) 300).code paFr paA (patch (paS p q a b) ((paU a b).S ((some i),false))))=some (.p (pa_b1f_nd p q a b i)):=by kernel_rfl
def pa_e_nd (p q:Bool) (a b:List Int) (i:Int) (l:Bool):Prop:=decide (i>=(0:Int))=false/\(true=true->(((0:Int)=(0:Int)/\(↑(paR a b i).length:Int)=(↑(paR a b i).length:Int))/\paQ a b i=paQ a b i/\paR a b i=paR a b i)/\(paU a b).F (some i,l)=(Ex.exit (0:Nat),{ tm:=((7:Nat),AV.islice true (7:Nat) (0:Int) (↑(paR a b i).length:Int)) :: ((8:Nat),AV.any false) :: ((9:Nat),AV.any false) :: deadT (18:Nat) (24:Nat),old:=[((6:Nat),ABody.ints IntKind.i64 (paQ a b i))],new:=[ABody.ints IntKind.i64 (paR a b i)] }))
theorem pa_e (p q:Bool) (a b:List Int) (i:Int) (l:Bool):chkR (paS p q a b) ((paU a b).way ((some i,l))) ((run (cHf 19) 300).code paFr paA (patch (paS p q a b) ((paU a b).S (some i,l))))=some (.p (pa_e_nd p q a b i l)):=by kernel_rfl
def pr_l_nd (p q:Bool) (a b:List Int):Prop:=(((↑a.length:Int)=(↑a.length:Int)/\(0:Int)<=(↑a.length:Int)/\(↑a.length:Int)<=(1048576:Int))/\At (paFr) (paFr) (paA) (paA) (paS p q a b) (paS p q a b)/\(((0:Int)<=(0:Int)/\(0:Int)<=(↑a.length:Int)/\(0:Int)+(↑a.length:Int)<=(↑(paQ a b (-1:Int)).length:Int))/\Dig (List.take (↑a.length:Int).toNat (List.drop (Int.toNat (0:Int)) (paQ a b (-1:Int))))/\Sm (List.take (↑a.length:Int).toNat (List.drop (Int.toNat (0:Int)) (paQ a b (-1:Int)))))/\p=p/\((0:Int)<=(0:Int)/\(0:Int)<=(↑(paR a b (-1:Int)).length:Int)/\(0:Int)+(↑(paR a b (-1:Int)).length:Int)<=(↑(paR a b (-1:Int)).length:Int))/\Dig (List.take (↑(paR a b (-1:Int)).length:Int).toNat (List.drop (Int.toNat (0:Int)) (paR a b (-1:Int))))/\Sm (List.take (↑(paR a b (-1:Int)).length:Int).toNat (List.drop (Int.toNat (0:Int)) (paR a b (-1:Int)))))
def pr_l_v (p q:Bool) (a b:List Int):AV:=(AV.tuple [AV.agg [AV.bool true (!p==q&&decide (val (List.take (↑a.length:Int).toNat (List.drop (Int.toNat (0:Int)) (paQ a b (-1:Int))))≠(0:Int))),AV.islice true 2 (0:Int) (↑(digs (val (List.take (↑a.length:Int).toNat (List.drop (Int.toNat (0:Int)) (paQ a b (-1:Int))))).toNat).length:Int)],AV.agg [AV.bool true (p&&decide (val (List.take (↑(paR a b (-1:Int)).length:Int).toNat (List.drop (Int.toNat (0:Int)) (paR a b (-1:Int))))≠(0:Int))),AV.islice true 3 (0:Int) (↑(digs (val (List.take (↑(paR a b (-1:Int)).length:Int).toNat (List.drop (Int.toNat (0:Int)) (paR a b (-1:Int))))).toNat).length:Int)]])
def pr_l_h (p q:Bool) (a b:List Int):Hp:=⟨[{ wr:=30,body:=ABody.ints IntKind.i64 (digs (val (List.take (↑(paR a b (-1:Int)).length:Int).toNat (List.drop (Int.toNat (0:Int)) (paR a b (-1:Int))))).toNat) },{ wr:=29,body:=ABody.ints IntKind.i64 (digs (val (List.take (↑a.length:Int).toNat (List.drop (Int.toNat (0:Int)) (paQ a b (-1:Int))))).toNat) },{ wr:=(0:Nat),body:=ABody.rows IntKind.i64 b },{ wr:=(0:Nat),body:=ABody.rows IntKind.i64 a }],4,32⟩
theorem pr_l (p q:Bool) (a b:List Int):(run (cPaL p q a b) 300).call 142 (suArgs p q a b) (leH a b)=some ⟨.p (pr_l_nd p q a b),[⟨.tt,pr_l_v p q a b,pr_l_h p q a b⟩]⟩:=by kernel_rfl
def pr_z_nd (p q:Bool) (a b:List Int):Prop:=(((↑a.length:Int)=(↑a.length:Int)/\(0:Int)<=(↑a.length:Int)/\(↑a.length:Int)<=(1048576:Int))/\decide (IntKind.i64.wrap ((↑a.length:Int) - (1:Int))>=(0:Int))=false/\(((0:Int)<=(0:Int)/\(0:Int)<=(↑a.length:Int)/\(0:Int)+(↑a.length:Int)<=(↑(List.replicate (↑a.length:Int).toNat (0:Int)).length:Int))/\Dig (List.take (↑a.length:Int).toNat (List.drop (Int.toNat (0:Int)) (List.replicate (↑a.length:Int).toNat (0:Int))))/\Sm (List.take (↑a.length:Int).toNat (List.drop (Int.toNat (0:Int)) (List.replicate (↑a.length:Int).toNat (0:Int)))))/\p=p/\Dig []/\Sm [])
def pr_z_v (p q:Bool) (a b:List Int):AV:=(AV.tuple [AV.agg [AV.bool true (!p==q&&decide (val (List.take (↑a.length:Int).toNat (List.drop (Int.toNat (0:Int)) (List.replicate (↑a.length:Int).toNat (0:Int))))≠(0:Int))),AV.islice true 2 (0:Int) (↑(digs (val (List.take (↑a.length:Int).toNat (List.drop (Int.toNat (0:Int)) (List.replicate (↑a.length:Int).toNat (0:Int))))).toNat).length:Int)],AV.agg [AV.bool true (p&&decide (val []≠(0:Int))),AV.islice true 3 (0:Int) (↑(digs (val []).toNat).length:Int)]])
def pr_z_h (p q:Bool) (a b:List Int):Hp:=⟨[{ wr:=31,body:=ABody.ints IntKind.i64 (digs (val []).toNat) },{ wr:=30,body:=ABody.ints IntKind.i64 (digs (val (List.take (↑a.length:Int).toNat (List.drop (Int.toNat (0:Int)) (List.replicate (↑a.length:Int).toNat (0:Int))))).toNat) },{ wr:=(0:Nat),body:=ABody.rows IntKind.i64 b },{ wr:=(0:Nat),body:=ABody.rows IntKind.i64 a }],4,33⟩
theorem pr_z (p q:Bool) (a b:List Int):(run (cHf 19) 300).call 142 (suArgs p q a b) (leH a b)=some ⟨.p (pr_z_nd p q a b),[⟨.tt,pr_z_v p q a b,pr_z_h p q a b⟩]⟩:=by kernel_rfl
end
end Go.Proofs.YtjcicegihechmaaGreatDoor.K
namespace Go.Proofs.YtjcicegihechmaaGreatDoor.K
open Go Go.Eng Go.Dg
noncomputable section
structure PaD (a b:List Int):Prop where
 ha:Dig a
 hb:Dig b
 tb:Top b
 ne:b≠[]
 sm:a.length+b.length<=400000
theorem PaD.pos {a b:List Int} (h:PaD a b):0<val b:=by
 have:=val_nonneg h.hb
 have:=val_ne h.hb h.tb h.ne
 omega
theorem tkR_some (x:Int) (r:List Int):tkR x (some r)=digs (x+1000000000*val r).toNat:=by
 show digs (val (List.take ((↑(1:Nat):Int)+(↑r.length:Int)).toNat (List.drop (Int.toNat 0) ([x]++List.take (↑r.length:Int).toNat (List.drop (Int.toNat 0) r))))).toNat=_
 rw [td,show (Int.toNat 0)=0 from rfl,List.drop_zero,List.take_of_length_le (by simp; omega)]
 rfl
theorem paT_eq {a b:List Int} (h:PaD a b) (y:Option Int) (hy:∀ i,y=some i->True):paT a b y=digs (paV a b (paI a y)).toNat:=by
 have hv:=h.pos
 cases y with
 | none=>
  show digs (val [a.getD ((a.length:Int) - 1).toNat 0]).toNat=digs (paV a b ((a.length:Int) - 1)).toNat
  unfold paV
  rw [dA_top]
  simp [val]
 | some i=>
  show tkR (a.getD i.toNat 0) (some (paR a b i))=digs (paV a b i).toNat
  rw [tkR_some]
  unfold paR paV
  rw [val_digs]
  have:=Int.emod_nonneg (dA a i) (show val b≠0 by omega)
  rw [show (((val (a.drop (i+1).toNat) % val b).toNat:Nat):Int)=dA a i % val b from by
   show (((dA a i % val b).toNat:Nat):Int)=_
   omega]
theorem paT_val {a b:List Int} (h:PaD a b) (y:Option Int):val (paT a b y)=paV a b (paI a y):=by
 have:=paV_bd h.ha h.pos (paI a y)
 rw [paT_eq h y (fun _ _=>trivial),val_digs]; omega
theorem len_lt {n:Nat} {b:List Int} (hb:Dig b) (h:(n:Int)<1000000000*val b):(digs n).length<=b.length+1:=by
 have:=val_lt hb
 have e:pw (b.length+1)=1000000000*pw b.length:=rfl
 exact len_digs (by omega)
theorem paT_ok {a b:List Int} (h:PaD a b) (y:Option Int):TkD (paT a b y) b:=by
 have hb:=paV_bd h.ha h.pos (paI a y)
 have sm:=h.sm
 have hl:(digs (paV a b (paI a y)).toNat).length<=b.length+1:=len_lt h.hb (by omega)
 refine ⟨?_,?_,?_,h.hb,h.tb,by omega,h.ne,?_⟩
 .rw [paT_eq h y (fun _ _=>trivial)]; exact dig_digs _
 .rw [paT_eq h y (fun _ _=>trivial)]; exact top_digs _
 .rw [paT_eq h y (fun _ _=>trivial)]; omega
 .rw [paT_val h]; exact hb.2
theorem cPa_ok (p q:Bool) {a b:List Int} (h:PaD a b) (y:Option Int) {l:Bool} (hl:l=decide (val (paT a b y)<val b)):CtxOk (cPa p q a b y l):=
 withLoop_ok (cHt_ok 19) (CodeOk.ctx (C:=cL2) (D:=cHt 19) rfl rfl (tk_loop p q a (paI a y) (paX a y) (paO a b y) (paT_ok h y) hl)) (withNone_ok (cHt_ok 19))
theorem paR_len {a b:List Int} (h:PaD a b) (i:Int):Dig (paR a b i)/\(paR a b i).length<=b.length:=by
 have hv:=h.pos
 have h1:=Int.emod_nonneg (val (a.drop (i+1).toNat)) (show val b≠0 by omega)
 have h2:=Int.emod_lt_of_pos (val (a.drop (i+1).toNat)) hv
 have h3:=val_lt h.hb
 exact ⟨dig_digs _,len_digs (by omega)⟩
theorem paN_eq {a b:List Int} (h:PaD a b) (y:Option Int) (h0:0<=paI a y) (h1:paI a y<a.length):paN a y=paI a y - 1:=by
 have sm:=h.sm
 cases y with
 | none=>
  show IntKind.i64.wrap ((a.length:Int) - 1 - 1)=a.length - 1 - 1
  exact iw (by omega) (by omega)
 | some i=>
  have h0:0<=i:=h0
  have h1:i<a.length:=h1
  show IntKind.i64.wrap (i - 1)=i - 1
  exact iw (by omega) (by omega)
theorem pa_next {a b:List Int} (h:PaD a b) (y:Option Int) (h0:0<=paI a y) (h1:paI a y<a.length):
  (val (paT a b y)<val b->paT a b y=paR a b (paN a y)/\(paQ a b (paI a y)).set (0+paI a y).toNat 0=paQ a b (paN a y)) /\
  (¬ val (paT a b y)<val b->digs (val (paT a b y) % val b).toNat=paR a b (paN a y)/\(paQ a b (paI a y)).set (0+paI a y).toNat (val (paT a b y) / val b)=paQ a b (paN a y)):=by
 have hv:=h.pos
 have hb:=paV_bd h.ha hv (paI a y)
 have e:=paT_val h y
 have r:=paR_next (a:=a) hv h0 h1
 have q:=paQ_next h.ha hv h0 h1
 rw [paN_eq h y h0 h1,show (0+paI a y).toNat=(paI a y).toNat by omega,e]
 refine ⟨fun hlt=>?_,fun hge=>⟨r.symm,q⟩⟩
 rw [Int.emod_eq_of_lt hb.1 hlt] at r
 rw [Int.ediv_eq_zero_of_lt hb.1 hlt] at q
 exact ⟨by rw [r,paT_eq h y (fun _ _=>trivial)],q⟩
theorem pa_loop (p q:Bool) {a b:List Int} (h:PaD a b) (h0:0<a.length):CodeOk cL2 paFr (.loop paA) (paS p q a b) ⟨.tt,[⟨.tt,.exit 0,patch (paS p q a b) (paE a b)⟩]⟩:=by
 have sm:=h.sm
 refine sumL_oneC (paU a b) (y0:=(none,decide (val (paT a b none)<val b))) ⟨rfl,by show -1<=(a.length:Int) - 1; omega,by show (a.length:Int) - 1<a.length; omega,fun _=>by show 0<=(a.length:Int) - 1; omega⟩ ⟨_,pa_start p q a b,?_⟩ (by kernel_rfl) (fun z hz=>?_) rfl
 .exact ⟨iw (by omega) (by omega),by rw [show ((a.length:Int)).toNat=a.length by omega]; exact paQ_top a b⟩
 obtain ⟨y,l⟩:=z
 obtain ⟨hl,i0,i1,i2⟩:=(show l=decide (val (paT a b y)<val b)/\-1<=paI a y/\paI a y<a.length/\(y=none->0<=paI a y) from hz)
 have nxt:0<=paI a y->∀ l,(paU a b).I ((paU a b).next (y,l))/\(paU a b).μ ((paU a b).next (y,l))<(paU a b).μ (y,l):=by
  intro hi l
  have e:=paN_eq h y hi i1
  refine ⟨⟨rfl,?_,?_,fun h=>by cases h⟩,?_⟩
  .show -1<=paN a y
   omega
  .show paN a y<a.length
   omega
  .show (paN a y+1).toNat<(paI a y+1).toNat
   omega
 by_cases hi:0<=paI a y
 .obtain ⟨n1,n2⟩:=pa_next h y hi i1
  obtain ⟨m1,m2⟩:=nxt hi l
  have hq:∀ y,(paQ a b (paI a y)).length=a.length:=fun y=>padL_len _ _
  have hT:=(paT_ok h y)
  cases y with
  | none=>
   have hi:0<=(a.length:Int) - 1:=hi
   have hg:=h.ha.get ((a.length:Int) - 1).toNat
   have hd:Dig [a.getD ((a.length:Int) - 1).toNat 0]/\Sm [a.getD ((a.length:Int) - 1).toNat 0]:=⟨dig_cons.2 ⟨hg,dig_nil⟩,by show 1<=500000; omega⟩
   cases l with
   | true=>
    obtain ⟨e1,e2⟩:=n1 (of_decide_eq_true hl.symm)
    exact ⟨cPa p q a b none true,300,cPa_ok p q h none hl,rfl,rfl,_,pa_b0t p q a b,⟨decide_eq_true hi,⟨⟨hi,by omega⟩,by omega⟩,hd,rfl,⟨rfl,rfl,rfl⟩,⟨hi,by omega⟩,by rw [hq]; omega⟩,fun _=>⟨⟨⟨⟨rfl,by rw [e1]⟩,rfl⟩,e2,e1⟩,m1,m2,rfl⟩⟩
   | false=>
    obtain ⟨e1,e2⟩:=n2 (of_decide_eq_false hl.symm)
    exact ⟨cPa p q a b none false,300,cPa_ok p q h none hl,rfl,rfl,_,pa_b0f p q a b,⟨decide_eq_true hi,⟨⟨hi,by omega⟩,by omega⟩,hd,rfl,⟨rfl,rfl,rfl⟩,⟨hi,by omega⟩,by rw [hq]; omega⟩,fun _=>⟨⟨⟨⟨rfl,by rw [e1]⟩,rfl⟩,e2,e1⟩,m1,m2,rfl⟩⟩
  | some i=>
   have hi:0<=i:=hi
   have i1:i<a.length:=i1
   have hg:=h.ha.get i.toNat
   obtain ⟨r1,r2⟩:=paR_len h i
   have ee:List.take ((↑(1:Nat):Int)+(↑(paR a b i).length:Int)).toNat (List.drop (Int.toNat 0) ([a.getD i.toNat 0]++List.take (↑(paR a b i).length:Int).toNat (List.drop (Int.toNat 0) (paR a b i))))=a.getD i.toNat 0 :: paR a b i:=by
    rw [td,show (Int.toNat 0)=0 from rfl,List.drop_zero,List.take_of_length_le (by simp; omega)]
    rfl
   have hd:(((0:Int)<=0/\(0:Int)<=(↑(1:Nat):Int)+(↑(paR a b i).length:Int)/\(0:Int)+((↑(1:Nat):Int)+(↑(paR a b i).length:Int))<=(↑([a.getD i.toNat (0:Int)]++List.take (↑(paR a b i).length:Int).toNat (List.drop (Int.toNat (0:Int)) (paR a b i))).length:Int))/\Dig (List.take ((↑(1:Nat):Int)+(↑(paR a b i).length:Int)).toNat (List.drop (Int.toNat 0) ([a.getD i.toNat 0]++List.take (↑(paR a b i).length:Int).toNat (List.drop (Int.toNat 0) (paR a b i)))))/\Sm (List.take ((↑(1:Nat):Int)+(↑(paR a b i).length:Int)).toNat (List.drop (Int.toNat 0) ([a.getD i.toNat 0]++List.take (↑(paR a b i).length:Int).toNat (List.drop (Int.toNat 0) (paR a b i)))))):=by
    rw [ee]
    refine ⟨?_,dig_cons.2 ⟨hg,r1⟩,by show (_ :: paR a b i).length<=500000; simp only [List.length_cons]; omega⟩
    rw [td]
    simp only [List.length_append,List.length_cons,List.length_nil]
    omega
   cases l with
   | true=>
    obtain ⟨e1,e2⟩:=n1 (of_decide_eq_true hl.symm)
    exact ⟨cPa p q a b (some i) true,300,cPa_ok p q h (some i) hl,rfl,rfl,_,pa_b1t p q a b i,⟨decide_eq_true hi,⟨⟨hi,i1⟩,by omega,lenp,by omega⟩,hd,rfl,⟨rfl,rfl,rfl⟩,⟨hi,i1⟩,by rw [hq]; omega⟩,fun _=>⟨⟨⟨⟨rfl,by rw [e1]⟩,rfl⟩,e2,e1⟩,m1,m2,rfl⟩⟩
   | false=>
    obtain ⟨e1,e2⟩:=n2 (of_decide_eq_false hl.symm)
    exact ⟨cPa p q a b (some i) false,300,cPa_ok p q h (some i) hl,rfl,rfl,_,pa_b1f p q a b i,⟨decide_eq_true hi,⟨⟨hi,i1⟩,by omega,lenp,by omega⟩,hd,rfl,⟨rfl,rfl,rfl⟩,⟨hi,i1⟩,by rw [hq]; omega⟩,fun _=>⟨⟨⟨⟨rfl,by rw [e1]⟩,rfl⟩,e2,e1⟩,m1,m2,rfl⟩⟩
 .cases y with
  | none=>exact absurd (i2 rfl) hi
  | some i=>
   have i0:-1<=i:=i0
   have hi:¬ 0<=i:=hi
   have:i=-1:=by omega
   subst this
   exact ⟨cHf 19,300,cHf_ok 19,rfl,rfl,_,pa_e p q a b (-1) l,rfl,fun _=>⟨⟨⟨rfl,rfl⟩,rfl,rfl⟩,rfl⟩⟩
theorem cPaL_ok (p q:Bool) {a b:List Int} (h:PaD a b) (h0:0<a.length):CtxOk (cPaL p q a b):=withLoop_ok cL2_ok (pa_loop p q h h0) (withNone_ok cL2_ok)
def ptV:List Nu->List (List Int)->Option (Prop×To)
 | [.t p,.t q],[a,b]=>some (okL p a/\okL q b/\b≠[]/\a.length+b.length<=400000,.tu [lgT false ((zv p a).tdiv (zv q b)),lgT false ((zv p a).tmod (zv q b))])
 | _,_=>none
theorem parts_ok:NOk Tryz.prog (fun _=>none) hG0 142 (mSpec hG0 .i64 [.st [.nu .b,.li],.st [.nu .b,.li]] ptV):=by
 refine msp_runs (fun xs ys p t e h=>?_) ⟨_,Tryz.func142,rfl⟩
 unfold ptV at e
 split at e
 .rename_i p q a b
  cases e
  obtain ⟨ha,hb,hne,hsm⟩:=h
  have hP:PaD a b:=⟨ha.1,hb.1,hb.2.1,hne,hsm⟩
  have va:=val_nonneg ha.1
  have vb:=hP.pos
  have q0:0<=val a / val b:=Int.ediv_nonneg va (by omega)
  have r0:=Int.emod_nonneg (val a) (show val b≠0 by omega)
  have hzq:(zv p a).tdiv (zv q b)=bif (!p==q) then -(val a / val b) else val a / val b:=by
   rw [<- Int.tdiv_eq_ediv_of_nonneg va]
   cases p <;> cases q <;> simp [zv,Int.neg_tdiv,Int.tdiv_neg]
  have hzr:(zv p a).tmod (zv q b)=bif p then -(val a % val b) else val a % val b:=by
   rw [<- Int.tmod_eq_emod_of_nonneg va]
   cases p <;> cases q <;> simp [zv,Int.neg_tmod,Int.tmod_neg]
  by_cases h0:a=[]
  .subst h0
   refine ⟨cHf 19,300,suArgs p q [] b,_,_,_,_,_,cHf_ok 19,rfl,rfl,⟨⟨rfl,rfl,trivial⟩,⟨rfl,rfl,trivial⟩,trivial⟩,pr_z p q [] b,rfl,⟨⟨rfl,by decide,by decide⟩,by decide,⟨by decide,dig_nil,by show 0<=500000; omega⟩,rfl,dig_nil,by show 0<=500000; omega⟩,rfl,rfl,⟨⟨?_,?_,?_⟩,⟨?_,?_,?_⟩⟩⟩
   .show (!p==q&&decide (val []≠0))=decide ((zv p []).tdiv (zv q b)<0)
    exact sgn_eq (v:=val ([]:List Int)) (by decide) (by rw [hzq]; simp [val])
   .exact lenp
   .show List.take ((digs (val ([]:List Int)).toNat).length:Int).toNat (List.drop (Int.toNat 0) (digs (val ([]:List Int)).toNat))=digs ((zv p []).tdiv (zv q b)).natAbs
    rw [td,abs_eq (v:=val ([]:List Int)) (p:=!p==q) (z:=(zv p []).tdiv (zv q b)) (by decide) (by rw [hzq]; simp [val])]
   .show (p&&decide (val []≠0))=decide ((zv p []).tmod (zv q b)<0)
    exact sgn_eq (v:=val ([]:List Int)) (by decide) (by rw [hzr]; simp [val])
   .exact lenp
   .show List.take ((digs (val ([]:List Int)).toNat).length:Int).toNat (List.drop (Int.toNat 0) (digs (val ([]:List Int)).toNat))=digs ((zv p []).tmod (zv q b)).natAbs
    rw [td,abs_eq (v:=val ([]:List Int)) (p:=p) (z:=(zv p []).tmod (zv q b)) (by decide) (by rw [hzr]; simp [val])]
  .have hpos:0<a.length:=List.length_pos_iff.2 h0
   obtain ⟨l1,l2,l3⟩:=paQ_end (b:=b) ha.1 vb
   have e2:List.take ((a.length:Int)).toNat (List.drop (Int.toNat 0) (paQ a b (-1)))=paQ a b (-1):=by
    rw [show ((a.length:Int)).toNat=(paQ a b (-1)).length by omega,show (Int.toNat 0)=0 from rfl,List.drop_zero,List.take_length]
   have r1:=paR_end a b
   obtain ⟨r2,r3⟩:=paR_len hP (-1)
   have r4:val (paR a b (-1))=val a % val b:=by rw [r1,val_digs]; omega
   refine ⟨cPaL p q a b,300,suArgs p q a b,_,_,_,_,_,cPaL_ok p q hP hpos,rfl,rfl,⟨⟨rfl,rfl,trivial⟩,⟨rfl,rfl,trivial⟩,trivial⟩,pr_l p q a b,rfl,⟨⟨rfl,by omega,by omega⟩,⟨rfl,rfl,rfl⟩,⟨⟨by omega,by omega,by omega⟩,by rw [e2]; exact l2,by rw [e2]; show _<=500000; omega⟩,rfl,lenp,by rw [td]; exact r2,by rw [td]; show _<=500000; omega⟩,rfl,rfl,⟨⟨?_,?_,?_⟩,⟨?_,?_,?_⟩⟩⟩
   .show (!p==q&&decide (val (List.take ((a.length:Int)).toNat (List.drop (Int.toNat 0) (paQ a b (-1))))≠0))=decide ((zv p a).tdiv (zv q b)<0)
    rw [e2,l3]
    exact sgn_eq q0 hzq
   .exact lenp
   .show List.take _ (List.drop _ (digs (val (List.take ((a.length:Int)).toNat (List.drop (Int.toNat 0) (paQ a b (-1))))).toNat))=digs ((zv p a).tdiv (zv q b)).natAbs
    rw [e2,td,l3,abs_eq q0 hzq]
   .show (p&&decide (val (List.take _ (List.drop _ (paR a b (-1))))≠0))=decide ((zv p a).tmod (zv q b)<0)
    rw [td,r4]
    exact sgn_eq r0 hzr
   .exact lenp
   .show List.take _ (List.drop _ (digs (val (List.take _ (List.drop _ (paR a b (-1))))).toNat))=digs ((zv p a).tmod (zv q b)).natAbs
    rw [td,td,r4,abs_eq r0 hzr]
 .cases e
end
end Go.Proofs.YtjcicegihechmaaGreatDoor.K
namespace Go.Proofs.YtjcicegihechmaaGreatDoor.K
open Go Go.Eng Go.Dg
noncomputable section
def tL4:List (FuncId×NSpec):=
 (117,mSpec hG0 .i64 [.st [.nu .b,.li],.st [.nu .b,.li]] prdV) ::
 (142,mSpec hG0 .i64 [.st [.nu .b,.li],.st [.nu .b,.li]] ptV) ::
 tL3
theorem tL4_ok:∀ x∈tL4,NOk Tryz.prog (fun _=>none) hG0 x.1 x.2:=by
 intro x hx
 rcases List.mem_cons.1 hx with rfl|hx
 .exact prod_ok
 rcases List.mem_cons.1 hx with rfl|hx
 .exact parts_ok
 exact tL3_ok x hx
def cL4:Ctx:=mkN Tryz.prog (fun _=>none) hG0 tL4 [] noExt
theorem cL4_ok:CtxOk cL4:=mkN_ok prog_ok (noExt_ok _) tL4_ok (fun x h=>by cases h)
def cmH (t:Bool):Ctx:=hinting cL4 (hintsT [(10,.bool false t)])
theorem cmH_ok (t:Bool):CtxOk (cmH t):=hinting_ok cL4_ok _
def cmFr:AFr:=⟨115,none⟩
def cmA:Code:=loopOf Tryz.prog 115 0
noncomputable def cmS (p q:Bool) (a b:List Int):St:=stAt cL4 300 115 (suArgs p q a b) (leH a b)
def lgA (id:Nat) (z:Int):List AV:=[.bool true (decide (z<0)),.lslice id (digs z.natAbs).length]
def cmP (q:Bool) (b:List Int):Option (Int×Option Int)->Patch
 | none=>⟨deadT 5 14,[],[]⟩
 | some (y,none)=>⟨deadT 5 14,[(2,.cells [.bool true q,.lslice 1 b.length]),(3,.cells (lgA 5 y))],[.rows .i64 (digs y.natAbs)]⟩
 | some (y,some x)=>⟨deadT 5 14,[(2,.cells (lgA 6 x)),(3,.cells (lgA 5 y))],[.rows .i64 (digs x.natAbs),.rows .i64 (digs y.natAbs)]⟩
def cmX (q:Bool) (b:List Int) (G:Nat):Nat->Patch
 | 0=>⟨deadT 5 14,[(3,.dead)],[]⟩
 | 1=>⟨deadT 5 14,[(2,.cells [.bool true q,.lslice 1 b.length]),(3,.dead)],[.dead]⟩
 | _=>⟨deadT 5 14,[(2,.cells [.any true,.lslice 6 (digs G).length]),(3,.dead)],[.rows .i64 (digs G),.dead]⟩
def cmN (p q:Bool) (a b:List Int):Option (Int×Option Int)->Int×Option Int
 | none=>((zv p a).tmod (zv q b),none)
 | some (y,none)=>((zv q b).tmod (zv (decide (y<0)) (digs y.natAbs)),some y)
 | some (y,some x)=>((zv (decide (x<0)) (digs x.natAbs)).tmod (zv (decide (y<0)) (digs y.natAbs)),some y)
def cmU (k G:Nat) (p q:Bool) (a b:List Int):SumL (Option (Int×Option Int)):=
 {
  S:=cmP q b
  I:=fun y=>match y with
   | none=>(k=0 ↔ zv q b=0)
   | some (y,none)=>zv q b≠0/\y=(zv p a).tmod (zv q b)/\(k=1 ↔ y=0)/\k≠0
   | some (y,some x)=>k=2/\x≠0/\x.natAbs<=(zv q b).natAbs/\y.natAbs<x.natAbs/\Int.gcd x y=G
  μ:=fun y=>match y with
   | none=>(zv q b).natAbs
   | some (y,_)=>y.natAbs
  F:=fun _=>(.exit 0,cmX q b G k)
  next:=fun y=>some (cmN p q a b y)
  ids:=fun y=>match y with
   | none=>[6]
   | some (_,none)=>[7,5]
   | some (_,some _)=>[8,5]
  X:=fun y _=>match y with
   | none=>some (cmX q b G 0,[])
   | some (_,none)=>some (cmX q b G 1,[5])
   | some (_,some x)=>some (cmX q b x.natAbs 2,[5,6]) }
noncomputable def cCm (k G:Nat) (p q:Bool) (a b:List Int):Ctx:=withLoops cL4 [oneLoop 115 (cmS p q a b).hp.clock cmFr cmA (cmS p q a b) (.exit 0) (cmX q b G k)]
end
end Go.Proofs.YtjcicegihechmaaGreatDoor.K
namespace Go.Proofs.YtjcicegihechmaaGreatDoor.K
open Go Go.Eng Go.Dg
noncomputable section
theorem cm_start (p q:Bool) (a b:List Int):fit (cmS p q a b) (cmS p q a b) (patch (cmS p q a b) (cmP q b none)) ([])=some .tt:=by kernel_rfl
def cm_b0_nd (k G:Nat) (p q:Bool) (a b:List Int):Prop:=(decide ((↑b.length:Int)>(0:Int))=true/\(((↑a.length:Int)=(↑a.length:Int)/\(↑b.length:Int)=(↑b.length:Int))/\okL p a/\okL q b/\b≠[]/\a.length+b.length<=(400000:Nat))/\decide ((zv p a).tmod (zv q b)<(0:Int))=decide ((zv p a).tmod (zv q b)<(0:Int))/\(↑(digs ((zv p a).tmod (zv q b)).natAbs).length:Int)=(↑(digs ((zv p a).tmod (zv q b)).natAbs).length:Int))/\(true=true->(((decide ((zv p a).tmod (zv q b)<(0:Int))=decide ((zv p a).tmod (zv q b)<(0:Int))/\(↑(digs ((zv p a).tmod (zv q b)).natAbs).length:Int)=(↑(digs ((zv p a).tmod (zv q b)).natAbs).length:Int))/\q=q/\(↑b.length:Int)=(↑b.length:Int))/\digs ((zv p a).tmod (zv q b)).natAbs=digs ((zv p a).tmod (zv q b)).natAbs)/\(cmU k G p q a b).I ((cmU k G p q a b).next none)/\(cmU k G p q a b).μ ((cmU k G p q a b).next none)<(cmU k G p q a b).μ none/\(cmU k G p q a b).F ((cmU k G p q a b).next none)=(cmU k G p q a b).F none)
theorem cm_b0 (k G:Nat) (p q:Bool) (a b:List Int):chkR (cmS p q a b) ((cmU k G p q a b).way (none)) ((run (cmH true) 300).code cmFr cmA (patch (cmS p q a b) ((cmU k G p q a b).S none)))=some (.p (cm_b0_nd k G p q a b)):=by kernel_rfl
def cm_e0_nd (k G:Nat) (p q:Bool) (a b:List Int):Prop:=decide ((↑b.length:Int)>(0:Int))=false/\(true=true->(cmU k G p q a b).F none=(Ex.exit (0:Nat),cmX q b G (0:Nat)))
theorem cm_e0 (k G:Nat) (p q:Bool) (a b:List Int):chkR (cmS p q a b) ((cmU k G p q a b).way (none)) ((run (cmH false) 300).code cmFr cmA (patch (cmS p q a b) ((cmU k G p q a b).S none)))=some (.p (cm_e0_nd k G p q a b)):=by kernel_rfl
def cm_b1_nd (k G:Nat) (p q:Bool) (a b:List Int) (y:Int):Prop:=(decide ((↑(digs y.natAbs).length:Int)>(0:Int))=true/\(((↑b.length:Int)=(↑b.length:Int)/\(↑(digs y.natAbs).length:Int)=(↑(digs y.natAbs).length:Int))/\okL q b/\okL (decide (y<(0:Int))) (digs y.natAbs)/\digs y.natAbs≠[]/\b.length+(digs y.natAbs).length<=(400000:Nat))/\decide ((zv q b).tmod (zv (decide (y<(0:Int))) (digs y.natAbs))<(0:Int))=decide ((zv q b).tmod (zv (decide (y<(0:Int))) (digs y.natAbs))<(0:Int))/\(↑(digs ((zv q b).tmod (zv (decide (y<(0:Int))) (digs y.natAbs))).natAbs).length:Int)=(↑(digs ((zv q b).tmod (zv (decide (y<(0:Int))) (digs y.natAbs))).natAbs).length:Int))/\(true=true->(((decide ((zv q b).tmod (zv (decide (y<(0:Int))) (digs y.natAbs))<(0:Int))=decide ((zv q b).tmod (zv (decide (y<(0:Int))) (digs y.natAbs))<(0:Int))/\(↑(digs ((zv q b).tmod (zv (decide (y<(0:Int))) (digs y.natAbs))).natAbs).length:Int)=(↑(digs ((zv q b).tmod (zv (decide (y<(0:Int))) (digs y.natAbs))).natAbs).length:Int))/\decide (y<(0:Int))=decide (y<(0:Int))/\(↑(digs y.natAbs).length:Int)=(↑(digs y.natAbs).length:Int))/\digs y.natAbs=digs y.natAbs/\digs ((zv q b).tmod (zv (decide (y<(0:Int))) (digs y.natAbs))).natAbs=digs ((zv q b).tmod (zv (decide (y<(0:Int))) (digs y.natAbs))).natAbs)/\(cmU k G p q a b).I ((cmU k G p q a b).next (some (y,none)))/\(cmU k G p q a b).μ ((cmU k G p q a b).next (some (y,none)))<(cmU k G p q a b).μ (some (y,none))/\(cmU k G p q a b).F ((cmU k G p q a b).next (some (y,none)))=(cmU k G p q a b).F (some (y,none)))
theorem cm_b1 (k G:Nat) (p q:Bool) (a b:List Int) (y:Int):chkR (cmS p q a b) ((cmU k G p q a b).way ((some (y,none)))) ((run (cmH true) 300).code cmFr cmA (patch (cmS p q a b) ((cmU k G p q a b).S (some (y,none)))))=some (.p (cm_b1_nd k G p q a b y)):=by kernel_rfl
def cm_e1_nd (k G:Nat) (p q:Bool) (a b:List Int) (y:Int):Prop:=decide ((↑(digs y.natAbs).length:Int)>(0:Int))=false/\(true=true->(q=q/\(↑b.length:Int)=(↑b.length:Int))/\(cmU k G p q a b).F (some (y,none))=(Ex.exit (0:Nat),cmX q b G (1:Nat)))
theorem cm_e1 (k G:Nat) (p q:Bool) (a b:List Int) (y:Int):chkR (cmS p q a b) ((cmU k G p q a b).way ((some (y,none)))) ((run (cmH false) 300).code cmFr cmA (patch (cmS p q a b) ((cmU k G p q a b).S (some (y,none)))))=some (.p (cm_e1_nd k G p q a b y)):=by kernel_rfl
def cm_b2_nd (k G:Nat) (p q:Bool) (a b:List Int) (y x:Int):Prop:=(decide ((↑(digs y.natAbs).length:Int)>(0:Int))=true/\(((↑(digs x.natAbs).length:Int)=(↑(digs x.natAbs).length:Int)/\(↑(digs y.natAbs).length:Int)=(↑(digs y.natAbs).length:Int))/\okL (decide (x<(0:Int))) (digs x.natAbs)/\okL (decide (y<(0:Int))) (digs y.natAbs)/\digs y.natAbs≠[]/\(digs x.natAbs).length+(digs y.natAbs).length<=(400000:Nat))/\decide ((zv (decide (x<(0:Int))) (digs x.natAbs)).tmod (zv (decide (y<(0:Int))) (digs y.natAbs))<(0:Int))=decide ((zv (decide (x<(0:Int))) (digs x.natAbs)).tmod (zv (decide (y<(0:Int))) (digs y.natAbs))<(0:Int))/\(↑(digs ((zv (decide (x<(0:Int))) (digs x.natAbs)).tmod (zv (decide (y<(0:Int))) (digs y.natAbs))).natAbs).length:Int)=(↑(digs ((zv (decide (x<(0:Int))) (digs x.natAbs)).tmod (zv (decide (y<(0:Int))) (digs y.natAbs))).natAbs).length:Int))/\(true=true->(((decide ((zv (decide (x<(0:Int))) (digs x.natAbs)).tmod (zv (decide (y<(0:Int))) (digs y.natAbs))<(0:Int))=decide ((zv (decide (x<(0:Int))) (digs x.natAbs)).tmod (zv (decide (y<(0:Int))) (digs y.natAbs))<(0:Int))/\(↑(digs ((zv (decide (x<(0:Int))) (digs x.natAbs)).tmod (zv (decide (y<(0:Int))) (digs y.natAbs))).natAbs).length:Int)=(↑(digs ((zv (decide (x<(0:Int))) (digs x.natAbs)).tmod (zv (decide (y<(0:Int))) (digs y.natAbs))).natAbs).length:Int))/\decide (y<(0:Int))=decide (y<(0:Int))/\(↑(digs y.natAbs).length:Int)=(↑(digs y.natAbs).length:Int))/\digs y.natAbs=digs y.natAbs/\digs ((zv (decide (x<(0:Int))) (digs x.natAbs)).tmod (zv (decide (y<(0:Int))) (digs y.natAbs))).natAbs=digs ((zv (decide (x<(0:Int))) (digs x.natAbs)).tmod (zv (decide (y<(0:Int))) (digs y.natAbs))).natAbs)/\(cmU k G p q a b).I ((cmU k G p q a b).next (some (y,some x)))/\(cmU k G p q a b).μ ((cmU k G p q a b).next (some (y,some x)))<(cmU k G p q a b).μ (some (y,some x))/\(cmU k G p q a b).F ((cmU k G p q a b).next (some (y,some x)))=(cmU k G p q a b).F (some (y,some x)))
theorem cm_b2 (k G:Nat) (p q:Bool) (a b:List Int) (y x:Int):chkR (cmS p q a b) ((cmU k G p q a b).way ((some (y,some x)))) ((run (cmH true) 300).code cmFr cmA (patch (cmS p q a b) ((cmU k G p q a b).S (some (y,some x)))))=some (.p (cm_b2_nd k G p q a b y x)):=by kernel_rfl
def cm_e2_nd (k G:Nat) (p q:Bool) (a b:List Int) (y x:Int):Prop:=decide ((↑(digs y.natAbs).length:Int)>(0:Int))=false/\(true=true->((↑(digs x.natAbs).length:Int)=(↑(digs x.natAbs).length:Int)/\digs x.natAbs=digs x.natAbs)/\(cmU k G p q a b).F (some (y,some x))=(Ex.exit (0:Nat),cmX q b x.natAbs (2:Nat)))
theorem cm_e2 (k G:Nat) (p q:Bool) (a b:List Int) (y x:Int):chkR (cmS p q a b) ((cmU k G p q a b).way ((some (y,some x)))) ((run (cmH false) 300).code cmFr cmA (patch (cmS p q a b) ((cmU k G p q a b).S (some (y,some x)))))=some (.p (cm_e2_nd k G p q a b y x)):=by kernel_rfl
def cm_t0_nd (G:Nat) (p q:Bool) (a b:List Int):Prop:=(At (cmFr) (cmFr) (cmA) (cmA) (cmS p q a b) (cmS p q a b)/\(↑a.length:Int)=(↑a.length:Int)/\Dig a/\Sm a)
def cm_t0_v (G:Nat) (p q:Bool) (a b:List Int):AV:=(AV.agg [AV.bool true (false&&decide (val a≠(0:Int))),AV.islice true 2 (0:Int) (↑(digs (val a).toNat).length:Int)])
def cm_t0_h (G:Nat) (p q:Bool) (a b:List Int):Hp:=⟨[{ wr:=10,body:=ABody.ints IntKind.i64 (digs (val a).toNat) },{ wr:=(0:Nat),body:=ABody.rows IntKind.i64 b },{ wr:=(0:Nat),body:=ABody.rows IntKind.i64 a }],3,11⟩
theorem cm_t0 (G:Nat) (p q:Bool) (a b:List Int):(run (cCm 0 G p q a b) 300).call 115 (suArgs p q a b) (leH a b)=some ⟨.p (cm_t0_nd G p q a b),[⟨.tt,cm_t0_v G p q a b,cm_t0_h G p q a b⟩]⟩:=by kernel_rfl
def cm_t1_nd (G:Nat) (p q:Bool) (a b:List Int):Prop:=(At (cmFr) (cmFr) (cmA) (cmA) (cmS p q a b) (cmS p q a b)/\(↑b.length:Int)=(↑b.length:Int)/\Dig b/\Sm b)
def cm_t1_v (G:Nat) (p q:Bool) (a b:List Int):AV:=(AV.agg [AV.bool true (false&&decide (val b≠(0:Int))),AV.islice true 2 (0:Int) (↑(digs (val b).toNat).length:Int)])
def cm_t1_h (G:Nat) (p q:Bool) (a b:List Int):Hp:=⟨[{ wr:=10,body:=ABody.ints IntKind.i64 (digs (val b).toNat) },{ wr:=(0:Nat),body:=ABody.rows IntKind.i64 b },{ wr:=(0:Nat),body:=ABody.rows IntKind.i64 a }],3,11⟩
theorem cm_t1 (G:Nat) (p q:Bool) (a b:List Int):(run (cCm 1 G p q a b) 300).call 115 (suArgs p q a b) (leH a b)=some ⟨.p (cm_t1_nd G p q a b),[⟨.tt,cm_t1_v G p q a b,cm_t1_h G p q a b⟩]⟩:=by kernel_rfl
def cm_t2_nd (G:Nat) (p q:Bool) (a b:List Int):Prop:=(At (cmFr) (cmFr) (cmA) (cmA) (cmS p q a b) (cmS p q a b)/\(↑(digs G).length:Int)=(↑(digs G).length:Int)/\Dig (digs G)/\Sm (digs G))
def cm_t2_v (G:Nat) (p q:Bool) (a b:List Int):AV:=(AV.agg [AV.bool true (false&&decide (val (digs G)≠(0:Int))),AV.islice true 2 (0:Int) (↑(digs (val (digs G)).toNat).length:Int)])
def cm_t2_h (G:Nat) (p q:Bool) (a b:List Int):Hp:=⟨[{ wr:=10,body:=ABody.ints IntKind.i64 (digs (val (digs G)).toNat) },{ wr:=(0:Nat),body:=ABody.rows IntKind.i64 b },{ wr:=(0:Nat),body:=ABody.rows IntKind.i64 a }],3,11⟩
theorem cm_t2 (G:Nat) (p q:Bool) (a b:List Int):(run (cCm 2 G p q a b) 300).call 115 (suArgs p q a b) (leH a b)=some ⟨.p (cm_t2_nd G p q a b),[⟨.tt,cm_t2_v G p q a b,cm_t2_h G p q a b⟩]⟩:=by kernel_rfl
end
end Go.Proofs.YtjcicegihechmaaGreatDoor.K
namespace Go.Proofs.YtjcicegihechmaaGreatDoor.K
open Go Go.Eng Go.Dg
noncomputable section
theorem gcd_next (x y:Int):Int.gcd y (x.tmod y)=Int.gcd x y:=by
 unfold Int.gcd
 rw [Int.natAbs_tmod,Nat.gcd_comm x.natAbs,Nat.gcd_rec y.natAbs x.natAbs,Nat.gcd_comm]
theorem tmod_lt (x:Int) {y:Int} (h:y≠0):(x.tmod y).natAbs<y.natAbs:=by
 rw [Int.natAbs_tmod]
 exact Nat.mod_lt _ (by omega)
theorem zv_abs {p:Bool} {a:List Int} (h:okL p a):(zv p a).natAbs=(val a).toNat:=by
 have:=val_nonneg h.1
 cases p <;> simp only [zv,cond_true,cond_false] <;> omega
structure CmD (p q:Bool) (a b:List Int):Prop where
 ha:okL p a
 hb:okL q b
 la:a.length<=200000
 lb:b.length<=200000
theorem CmD.bd {p q:Bool} {a b:List Int} (h:CmD p q a b) {z:Int} (hz:z.natAbs<=(zv q b).natAbs):okL (decide (z<0)) (digs z.natAbs)/\(digs z.natAbs).length<=200000:=by
 have e:=zv_abs h.hb
 have h1:=val_lt h.hb.1
 have h0:=val_nonneg h.hb.1
 have h2:=pw_mono h.lb
 have h3:=pw_mono (show 200000<=500000 by decide)
 exact ⟨okL_digs (by omega),len_digs (by omega)⟩
theorem cm_loop (k:Nat) (p q:Bool) {a b:List Int} (h:CmD p q a b) (h0:k=0 ↔ zv q b=0) (h1:k=1 ↔ zv q b≠0/\(zv p a).tmod (zv q b)=0) (h2:k<=2):
  CodeOk cL4 cmFr (.loop cmA) (cmS p q a b) ⟨.tt,[⟨.tt,.exit 0,patch (cmS p q a b) (cmX q b (Int.gcd (zv p a) (zv q b)) k)⟩]⟩:=by
 refine sumL_oneC (cmU k (Int.gcd (zv p a) (zv q b)) p q a b) (y0:=none) h0 ⟨_,cm_start p q a b,trivial⟩ (by kernel_rfl) (fun y hy=>?_) rfl
 have ha:=h.ha
 have hb:=h.hb
 have la:=h.la
 have lb:=h.lb
 cases y with
 | none=>
  by_cases hz:zv q b=0
  .have hk:k=0:=h0.2 hz
   have hbe:=hb.nil.2 hz
   refine ⟨cmH false,300,cmH_ok false,rfl,rfl,_,cm_e0 k _ p q a b,?_,fun _=>?_⟩
   .rw [hbe]; rfl
   .show (Ex.exit 0,cmX q b _ k)=_
    rw [hk]
  .have hne:b≠[]:=fun e=>hz (hb.nil.1 e)
   have hpos:=List.length_pos_iff.2 hne
   refine ⟨cmH true,300,cmH_ok true,rfl,rfl,_,cm_b0 k _ p q a b,⟨decide_eq_true (by omega),⟨⟨rfl,rfl⟩,ha,hb,hne,by omega⟩,rfl,rfl⟩,fun _=>⟨⟨⟨⟨rfl,rfl⟩,rfl,rfl⟩,rfl⟩,?_,?_,rfl⟩⟩
   .show zv q b≠0/\(zv p a).tmod (zv q b)=(zv p a).tmod (zv q b)/\(k=1 ↔ (zv p a).tmod (zv q b)=0)/\k≠0
    exact ⟨hz,rfl,⟨fun e=>(h1.1 e).2,fun e=>h1.2 ⟨hz,e⟩⟩,fun e=>hz (h0.1 e)⟩
   .exact tmod_lt _ hz
 | some y=>
  obtain ⟨y,x⟩:=y
  cases x with
  | none=>
   obtain ⟨hz,hy1,hy2,hy3⟩:=(show zv q b≠0/\y=(zv p a).tmod (zv q b)/\(k=1 ↔ y=0)/\k≠0 from hy)
   have hlt:y.natAbs<(zv q b).natAbs:=by rw [hy1]; exact tmod_lt _ hz
   obtain ⟨o1,o2⟩:=h.bd (z:=y) (by omega)
   by_cases hy0:y=0
   .have hk:k=1:=hy2.2 hy0
    refine ⟨cmH false,300,cmH_ok false,rfl,rfl,_,cm_e1 k _ p q a b y,?_,fun _=>⟨⟨rfl,rfl⟩,?_⟩⟩
    .rw [hy0,show digs (0:Int).natAbs=[] from digs_zero]; rfl
    .show (Ex.exit 0,cmX q b _ k)=_
     rw [hk]
   .have hk:k=2:=by
     have:k≠1:=fun e=>hy0 (hy2.1 e)
     omega
    have hpos:=digs_len_pos (n:=y.natAbs) (by omega)
    refine ⟨cmH true,300,cmH_ok true,rfl,rfl,_,cm_b1 k _ p q a b y,⟨decide_eq_true (by omega),⟨⟨rfl,rfl⟩,hb,o1,fun e=>by rw [e] at hpos; simp at hpos,by omega⟩,rfl,rfl⟩,fun _=>⟨⟨⟨⟨rfl,rfl⟩,rfl,rfl⟩,rfl,rfl⟩,?_,?_,rfl⟩⟩
    .show k=2/\y≠0/\y.natAbs<=(zv q b).natAbs/\((zv q b).tmod (zv (decide (y<0)) (digs y.natAbs))).natAbs<y.natAbs/\Int.gcd y ((zv q b).tmod (zv (decide (y<0)) (digs y.natAbs)))=Int.gcd (zv p a) (zv q b)
     rw [zv_digs]
     refine ⟨hk,hy0,by omega,tmod_lt _ hy0,?_⟩
     rw [gcd_next,hy1,gcd_next]
    .show ((zv q b).tmod (zv (decide (y<0)) (digs y.natAbs))).natAbs<y.natAbs
     rw [zv_digs]; exact tmod_lt _ hy0
  | some x=>
   obtain ⟨hk,hx0,hxb,hlt,hg⟩:=(show k=2/\x≠0/\x.natAbs<=(zv q b).natAbs/\y.natAbs<x.natAbs/\Int.gcd x y=Int.gcd (zv p a) (zv q b) from hy)
   obtain ⟨o1,o2⟩:=h.bd (z:=y) (by omega)
   obtain ⟨o3,o4⟩:=h.bd (z:=x) (by omega)
   by_cases hy0:y=0
   .refine ⟨cmH false,300,cmH_ok false,rfl,rfl,_,cm_e2 k _ p q a b y x,?_,fun _=>⟨⟨rfl,rfl⟩,?_⟩⟩
    .rw [hy0,show digs (0:Int).natAbs=[] from digs_zero]; rfl
    .show (Ex.exit 0,cmX q b _ k)=_
     rw [hk,<- hg,hy0,Int.gcd_zero_right]
   .have hpos:=digs_len_pos (n:=y.natAbs) (by omega)
    refine ⟨cmH true,300,cmH_ok true,rfl,rfl,_,cm_b2 k _ p q a b y x,⟨decide_eq_true (by omega),⟨⟨rfl,rfl⟩,o3,o1,fun e=>by rw [e] at hpos; simp at hpos,by omega⟩,rfl,rfl⟩,fun _=>⟨⟨⟨⟨rfl,rfl⟩,rfl,rfl⟩,rfl,rfl⟩,?_,?_,rfl⟩⟩
    .show k=2/\y≠0/\y.natAbs<=(zv q b).natAbs/\((zv (decide (x<0)) (digs x.natAbs)).tmod (zv (decide (y<0)) (digs y.natAbs))).natAbs<y.natAbs/\Int.gcd y ((zv (decide (x<0)) (digs x.natAbs)).tmod (zv (decide (y<0)) (digs y.natAbs)))=Int.gcd (zv p a) (zv q b)
     rw [zv_digs,zv_digs]
     exact ⟨hk,hy0,by omega,tmod_lt _ hy0,by rw [gcd_next,hg]⟩
    .show ((zv (decide (x<0)) (digs x.natAbs)).tmod (zv (decide (y<0)) (digs y.natAbs))).natAbs<y.natAbs
     rw [zv_digs,zv_digs]; exact tmod_lt _ hy0
theorem cCm_ok (k:Nat) (p q:Bool) {a b:List Int} (h:CmD p q a b) (h0:k=0 ↔ zv q b=0) (h1:k=1 ↔ zv q b≠0/\(zv p a).tmod (zv q b)=0) (h2:k<=2):CtxOk (cCm k (Int.gcd (zv p a) (zv q b)) p q a b):=
 withLoop_ok cL4_ok (cm_loop k p q h h0 h1 h2) (withNone_ok cL4_ok)
def cmV:List Nu->List (List Int)->Option (Prop×To)
 | [.t p,.t q],[a,b]=>some (CmD p q a b,lgT false ((Int.gcd (zv p a) (zv q b):Nat):Int))
 | _,_=>none
theorem common_ok:NOk Tryz.prog (fun _=>none) hG0 115 (mSpec hG0 .i64 [.st [.nu .b,.li],.st [.nu .b,.li]] cmV):=by
 refine msp_runs (fun xs ys p t e h=>?_) ⟨_,Tryz.func115,rfl⟩
 unfold cmV at e
 split at e
 .rename_i p q a b
  cases e
  have hgn:decide (((Int.gcd (zv p a) (zv q b):Nat):Int)<0)=false:=decide_eq_false (by omega)
  have hga:(((Int.gcd (zv p a) (zv q b):Nat):Int)).natAbs=Int.gcd (zv p a) (zv q b):=by omega
  have ea:=zv_abs h.ha
  have eb:=zv_abs h.hb
  by_cases hz:zv q b=0
  .refine ⟨cCm 0 (Int.gcd (zv p a) (zv q b)) p q a b,300,suArgs p q a b,_,_,_,_,_,cCm_ok 0 p q h ⟨fun _=>hz,fun _=>rfl⟩ ⟨fun h=>(by cases h),fun h=>absurd hz h.1⟩ (by decide),rfl,rfl,⟨⟨rfl,rfl,trivial⟩,⟨rfl,rfl,trivial⟩,trivial⟩,cm_t0 _ p q a b,rfl,⟨⟨rfl,rfl,rfl⟩,rfl,h.ha.1,h.ha.2.2.2⟩,rfl,rfl,⟨?_,?_,?_⟩⟩
   .exact hgn.symm
   .exact lenp
   .show List.take _ (List.drop _ (digs (val a).toNat))=digs (((Int.gcd (zv p a) (zv q b):Nat):Int)).natAbs
    rw [td,hga,hz,Int.gcd_zero_right,ea]
  .by_cases hy:(zv p a).tmod (zv q b)=0
   .refine ⟨cCm 1 (Int.gcd (zv p a) (zv q b)) p q a b,300,suArgs p q a b,_,_,_,_,_,cCm_ok 1 p q h ⟨fun h=>(by cases h),fun h=>absurd h hz⟩ ⟨fun _=>⟨hz,hy⟩,fun _=>rfl⟩ (by decide),rfl,rfl,⟨⟨rfl,rfl,trivial⟩,⟨rfl,rfl,trivial⟩,trivial⟩,cm_t1 _ p q a b,rfl,⟨⟨rfl,rfl,rfl⟩,rfl,h.hb.1,h.hb.2.2.2⟩,rfl,rfl,⟨?_,?_,?_⟩⟩
    .exact hgn.symm
    .exact lenp
    .show List.take _ (List.drop _ (digs (val b).toNat))=digs (((Int.gcd (zv p a) (zv q b):Nat):Int)).natAbs
     rw [td,hga,<- gcd_next,hy,Int.gcd_zero_right,eb]
   .have hG:Sm (digs (Int.gcd (zv p a) (zv q b))):=by
     have h1:=Nat.le_of_dvd (by omega:0<(zv q b).natAbs) (Nat.gcd_dvd_right (zv p a).natAbs (zv q b).natAbs)
     have h2:=val_lt h.hb.1
     have h3:=pw_mono h.lb
     have h0:=val_nonneg h.hb.1
     have h4:Int.gcd (zv p a) (zv q b)=(zv p a).natAbs.gcd (zv q b).natAbs:=rfl
     have:=len_digs (n:=Int.gcd (zv p a) (zv q b)) (k:=200000) (by omega)
     show _<=500000
     omega
    refine ⟨cCm 2 (Int.gcd (zv p a) (zv q b)) p q a b,300,suArgs p q a b,_,_,_,_,_,cCm_ok 2 p q h ⟨fun h=>(by cases h),fun h=>absurd h hz⟩ ⟨fun h=>(by cases h),fun h=>absurd h.2 hy⟩ (by decide),rfl,rfl,⟨⟨rfl,rfl,trivial⟩,⟨rfl,rfl,trivial⟩,trivial⟩,cm_t2 _ p q a b,rfl,⟨⟨rfl,rfl,rfl⟩,rfl,dig_digs _,hG⟩,rfl,rfl,⟨?_,?_,?_⟩⟩
    .exact hgn.symm
    .exact lenp
    .show List.take _ (List.drop _ (digs (val (digs (Int.gcd (zv p a) (zv q b)))).toNat))=digs (((Int.gcd (zv p a) (zv q b):Nat):Int)).natAbs
     rw [td,hga,val_digs]; rfl
 .cases e
end
end Go.Proofs.YtjcicegihechmaaGreatDoor.K
namespace Go.Proofs.YtjcicegihechmaaGreatDoor.K
open Go Go.Eng Go.Dg
noncomputable section
def tQ1:List (FuncId×NSpec):=(115,mSpec hG0 .i64 [.st [.nu .b,.li],.st [.nu .b,.li]] cmV) :: tL4
theorem tQ1_ok:∀ x∈tQ1,NOk Tryz.prog (fun _=>none) hG0 x.1 x.2:=by
 intro x hx
 rcases List.mem_cons.1 hx with rfl|hx
 .exact common_ok
 exact tL4_ok x hx
def cLo (d:Bool):Ctx:=hinting (mkN Tryz.prog (fun _=>none) hG0 tQ1 [] noExt) (hintsT [(11,.bool false d)])
theorem cLo_ok (d:Bool):CtxOk (cLo d):=hinting_ok (mkN_ok prog_ok (noExt_ok _) tQ1_ok (fun x h=>by cases h)) _
def cRq:Ctx:=hinting (mkN Tryz.prog (fun _=>none) hG0 tQ1 [] noExt) (hintsT [(15,.bool false true),(22,.bool false true),(31,.bool false true)])
theorem cRq_ok:CtxOk cRq:=hinting_ok (mkN_ok prog_ok (noExt_ok _) tQ1_ok (fun x h=>by cases h)) _
def rqArgs (p q:Bool) (n d:List Int):List AV:=[.agg [.bool true p,.lslice 0 n.length,.bool true q,.lslice 1 d.length]]
end
end Go.Proofs.YtjcicegihechmaaGreatDoor.K
namespace Go.Proofs.YtjcicegihechmaaGreatDoor.K
open Go Go.Eng Go.Dg
noncomputable section
def lo_p_nd (p q:Bool) (n d:List Int):Prop:=(q=false/\(((↑n.length:Int)=(↑n.length:Int)/\(↑d.length:Int)=(↑d.length:Int))/\CmD p q n d)/\(((↑n.length:Int)=(↑n.length:Int)/\(↑(digs (↑((zv p n).gcd (zv q d)):Int).natAbs).length:Int)=(↑(digs (↑((zv p n).gcd (zv q d)):Int).natAbs).length:Int))/\okL p n/\okL (decide ((↑((zv p n).gcd (zv q d)):Int)<(0:Int))) (digs (↑((zv p n).gcd (zv q d)):Int).natAbs)/\digs (↑((zv p n).gcd (zv q d)):Int).natAbs≠[]/\n.length+(digs (↑((zv p n).gcd (zv q d)):Int).natAbs).length<=(400000:Nat))/\((↑d.length:Int)=(↑d.length:Int)/\(↑(digs (↑((zv p n).gcd (zv q d)):Int).natAbs).length:Int)=(↑(digs (↑((zv p n).gcd (zv q d)):Int).natAbs).length:Int))/\okL q d/\okL (decide ((↑((zv p n).gcd (zv q d)):Int)<(0:Int))) (digs (↑((zv p n).gcd (zv q d)):Int).natAbs)/\digs (↑((zv p n).gcd (zv q d)):Int).natAbs≠[]/\d.length+(digs (↑((zv p n).gcd (zv q d)):Int).natAbs).length<=(400000:Nat))
def lo_p_v (p q:Bool) (n d:List Int):AV:=(AV.agg [AV.bool true (decide ((zv p n).tdiv (zv (decide ((↑((zv p n).gcd (zv q d)):Int)<(0:Int))) (digs (↑((zv p n).gcd (zv q d)):Int).natAbs))<(0:Int))),AV.lslice 2 (↑(digs ((zv p n).tdiv (zv (decide ((↑((zv p n).gcd (zv q d)):Int)<(0:Int))) (digs (↑((zv p n).gcd (zv q d)):Int).natAbs))).natAbs).length:Int),AV.bool true (decide ((zv q d).tdiv (zv (decide ((↑((zv p n).gcd (zv q d)):Int)<(0:Int))) (digs (↑((zv p n).gcd (zv q d)):Int).natAbs))<(0:Int))),AV.lslice 3 (↑(digs ((zv q d).tdiv (zv (decide ((↑((zv p n).gcd (zv q d)):Int)<(0:Int))) (digs (↑((zv p n).gcd (zv q d)):Int).natAbs))).natAbs).length:Int)])
def lo_p_h (p q:Bool) (n d:List Int):Hp:=⟨[{ wr:=25,body:=ABody.rows IntKind.i64 (digs ((zv q d).tdiv (zv (decide ((↑((zv p n).gcd (zv q d)):Int)<(0:Int))) (digs (↑((zv p n).gcd (zv q d)):Int).natAbs))).natAbs) },{ wr:=15,body:=ABody.rows IntKind.i64 (digs ((zv p n).tdiv (zv (decide ((↑((zv p n).gcd (zv q d)):Int)<(0:Int))) (digs (↑((zv p n).gcd (zv q d)):Int).natAbs))).natAbs) },{ wr:=(0:Nat),body:=ABody.rows IntKind.i64 d },{ wr:=(0:Nat),body:=ABody.rows IntKind.i64 n }],4,36⟩
theorem lo_p (p q:Bool) (n d:List Int):(run (cLo false) 300).call 112 (suArgs p q n d) (leH n d)=some ⟨.p (lo_p_nd p q n d),[⟨.tt,lo_p_v p q n d,lo_p_h p q n d⟩]⟩:=by kernel_rfl
def lo_n_nd (p q:Bool) (n d:List Int):Prop:=((q=true/\((↑n.length:Int)=(↑n.length:Int)/\okL p n)/\(q=q/\(↑d.length:Int)=(↑d.length:Int))/\(↑d.length:Int)=(↑d.length:Int)/\okL q d)/\(((↑(digs (-zv p n).natAbs).length:Int)=(↑(digs (-zv p n).natAbs).length:Int)/\(↑(digs (-zv q d).natAbs).length:Int)=(↑(digs (-zv q d).natAbs).length:Int))/\CmD (decide (-zv p n<(0:Int))) (decide (-zv q d<(0:Int))) (digs (-zv p n).natAbs) (digs (-zv q d).natAbs))/\(((↑(digs (-zv p n).natAbs).length:Int)=(↑(digs (-zv p n).natAbs).length:Int)/\(↑(digs (↑((zv (decide (-zv p n<(0:Int))) (digs (-zv p n).natAbs)).gcd (zv (decide (-zv q d<(0:Int))) (digs (-zv q d).natAbs))):Int).natAbs).length:Int)=(↑(digs (↑((zv (decide (-zv p n<(0:Int))) (digs (-zv p n).natAbs)).gcd (zv (decide (-zv q d<(0:Int))) (digs (-zv q d).natAbs))):Int).natAbs).length:Int))/\okL (decide (-zv p n<(0:Int))) (digs (-zv p n).natAbs)/\okL (decide ((↑((zv (decide (-zv p n<(0:Int))) (digs (-zv p n).natAbs)).gcd (zv (decide (-zv q d<(0:Int))) (digs (-zv q d).natAbs))):Int)<(0:Int))) (digs (↑((zv (decide (-zv p n<(0:Int))) (digs (-zv p n).natAbs)).gcd (zv (decide (-zv q d<(0:Int))) (digs (-zv q d).natAbs))):Int).natAbs)/\digs (↑((zv (decide (-zv p n<(0:Int))) (digs (-zv p n).natAbs)).gcd (zv (decide (-zv q d<(0:Int))) (digs (-zv q d).natAbs))):Int).natAbs≠[]/\(digs (-zv p n).natAbs).length+(digs (↑((zv (decide (-zv p n<(0:Int))) (digs (-zv p n).natAbs)).gcd (zv (decide (-zv q d<(0:Int))) (digs (-zv q d).natAbs))):Int).natAbs).length<=(400000:Nat))/\((↑(digs (-zv q d).natAbs).length:Int)=(↑(digs (-zv q d).natAbs).length:Int)/\(↑(digs (↑((zv (decide (-zv p n<(0:Int))) (digs (-zv p n).natAbs)).gcd (zv (decide (-zv q d<(0:Int))) (digs (-zv q d).natAbs))):Int).natAbs).length:Int)=(↑(digs (↑((zv (decide (-zv p n<(0:Int))) (digs (-zv p n).natAbs)).gcd (zv (decide (-zv q d<(0:Int))) (digs (-zv q d).natAbs))):Int).natAbs).length:Int))/\okL (decide (-zv q d<(0:Int))) (digs (-zv q d).natAbs)/\okL (decide ((↑((zv (decide (-zv p n<(0:Int))) (digs (-zv p n).natAbs)).gcd (zv (decide (-zv q d<(0:Int))) (digs (-zv q d).natAbs))):Int)<(0:Int))) (digs (↑((zv (decide (-zv p n<(0:Int))) (digs (-zv p n).natAbs)).gcd (zv (decide (-zv q d<(0:Int))) (digs (-zv q d).natAbs))):Int).natAbs)/\digs (↑((zv (decide (-zv p n<(0:Int))) (digs (-zv p n).natAbs)).gcd (zv (decide (-zv q d<(0:Int))) (digs (-zv q d).natAbs))):Int).natAbs≠[]/\(digs (-zv q d).natAbs).length+(digs (↑((zv (decide (-zv p n<(0:Int))) (digs (-zv p n).natAbs)).gcd (zv (decide (-zv q d<(0:Int))) (digs (-zv q d).natAbs))):Int).natAbs).length<=(400000:Nat))
def lo_n_v (p q:Bool) (n d:List Int):AV:=(AV.agg [AV.bool true (decide ((zv (decide (-zv p n<(0:Int))) (digs (-zv p n).natAbs)).tdiv (zv (decide ((↑((zv (decide (-zv p n<(0:Int))) (digs (-zv p n).natAbs)).gcd (zv (decide (-zv q d<(0:Int))) (digs (-zv q d).natAbs))):Int)<(0:Int))) (digs (↑((zv (decide (-zv p n<(0:Int))) (digs (-zv p n).natAbs)).gcd (zv (decide (-zv q d<(0:Int))) (digs (-zv q d).natAbs))):Int).natAbs))<(0:Int))),AV.lslice 2 (↑(digs ((zv (decide (-zv p n<(0:Int))) (digs (-zv p n).natAbs)).tdiv (zv (decide ((↑((zv (decide (-zv p n<(0:Int))) (digs (-zv p n).natAbs)).gcd (zv (decide (-zv q d<(0:Int))) (digs (-zv q d).natAbs))):Int)<(0:Int))) (digs (↑((zv (decide (-zv p n<(0:Int))) (digs (-zv p n).natAbs)).gcd (zv (decide (-zv q d<(0:Int))) (digs (-zv q d).natAbs))):Int).natAbs))).natAbs).length:Int),AV.bool true (decide ((zv (decide (-zv q d<(0:Int))) (digs (-zv q d).natAbs)).tdiv (zv (decide ((↑((zv (decide (-zv p n<(0:Int))) (digs (-zv p n).natAbs)).gcd (zv (decide (-zv q d<(0:Int))) (digs (-zv q d).natAbs))):Int)<(0:Int))) (digs (↑((zv (decide (-zv p n<(0:Int))) (digs (-zv p n).natAbs)).gcd (zv (decide (-zv q d<(0:Int))) (digs (-zv q d).natAbs))):Int).natAbs))<(0:Int))),AV.lslice 3 (↑(digs ((zv (decide (-zv q d<(0:Int))) (digs (-zv q d).natAbs)).tdiv (zv (decide ((↑((zv (decide (-zv p n<(0:Int))) (digs (-zv p n).natAbs)).gcd (zv (decide (-zv q d<(0:Int))) (digs (-zv q d).natAbs))):Int)<(0:Int))) (digs (↑((zv (decide (-zv p n<(0:Int))) (digs (-zv p n).natAbs)).gcd (zv (decide (-zv q d<(0:Int))) (digs (-zv q d).natAbs))):Int).natAbs))).natAbs).length:Int)])
def lo_n_h (p q:Bool) (n d:List Int):Hp:=⟨[{ wr:=31,body:=ABody.rows IntKind.i64 (digs ((zv (decide (-zv q d<(0:Int))) (digs (-zv q d).natAbs)).tdiv (zv (decide ((↑((zv (decide (-zv p n<(0:Int))) (digs (-zv p n).natAbs)).gcd (zv (decide (-zv q d<(0:Int))) (digs (-zv q d).natAbs))):Int)<(0:Int))) (digs (↑((zv (decide (-zv p n<(0:Int))) (digs (-zv p n).natAbs)).gcd (zv (decide (-zv q d<(0:Int))) (digs (-zv q d).natAbs))):Int).natAbs))).natAbs) },{ wr:=21,body:=ABody.rows IntKind.i64 (digs ((zv (decide (-zv p n<(0:Int))) (digs (-zv p n).natAbs)).tdiv (zv (decide ((↑((zv (decide (-zv p n<(0:Int))) (digs (-zv p n).natAbs)).gcd (zv (decide (-zv q d<(0:Int))) (digs (-zv q d).natAbs))):Int)<(0:Int))) (digs (↑((zv (decide (-zv p n<(0:Int))) (digs (-zv p n).natAbs)).gcd (zv (decide (-zv q d<(0:Int))) (digs (-zv q d).natAbs))):Int).natAbs))).natAbs) },{ wr:=(0:Nat),body:=ABody.rows IntKind.i64 d },{ wr:=(0:Nat),body:=ABody.rows IntKind.i64 n }],4,42⟩
theorem lo_n (p q:Bool) (n d:List Int):(run (cLo true) 300).call 112 (suArgs p q n d) (leH n d)=some ⟨.p (lo_n_nd p q n d),[⟨.tt,lo_n_v p q n d,lo_n_h p q n d⟩]⟩:=by kernel_rfl
def rq_t_nd (p q:Bool) (n d:List Int):Prop:=(((↑n.length:Int)=(↑n.length:Int)/\okL p n/\n.length<=(600:Nat))/\((↑d.length:Int)=(↑d.length:Int)/\okL q d/\d.length<=(600:Nat))/\(!q)=true/\decide ((↑d.length:Int)>(0:Int))=true/\(((↑n.length:Int)=(↑n.length:Int)/\(↑d.length:Int)=(↑d.length:Int))/\CmD p q n d)/\Int.natAbs (1:Int)<=(9223372036854775808:Nat)/\(((↑(digs (↑((zv p n).gcd (zv q d)):Int).natAbs).length:Int)=(↑(digs (↑((zv p n).gcd (zv q d)):Int).natAbs).length:Int)/\(↑(digs (Int.natAbs (1:Int))).length:Int)=(↑(digs (Int.natAbs (1:Int))).length:Int))/\Sm (digs (↑((zv p n).gcd (zv q d)):Int).natAbs)/\Sm (digs (Int.natAbs (1:Int))))/\decide (decide ((↑((zv p n).gcd (zv q d)):Int)<(0:Int))=decide ((1:Int)<(0:Int))/\digs (↑((zv p n).gcd (zv q d)):Int).natAbs=digs (Int.natAbs (1:Int)))=true)
def rq_t_v (p q:Bool) (n d:List Int):AV:=(AV.bool false true)
def rq_t_h (p q:Bool) (n d:List Int):Hp:=⟨[{ wr:=(0:Nat),body:=ABody.rows IntKind.i64 d },{ wr:=(0:Nat),body:=ABody.rows IntKind.i64 n }],2,35⟩
theorem rq_t (p q:Bool) (n d:List Int):(run cRq 300).call 87 (rqArgs p q n d) (leH n d)=some ⟨.p (rq_t_nd p q n d),[⟨.tt,rq_t_v p q n d,rq_t_h p q n d⟩]⟩:=by kernel_rfl
end
end Go.Proofs.YtjcicegihechmaaGreatDoor.K
namespace Go.Dg
open Go Go.Eng
theorem tdiv_gcd {n g:Int} (hd:g ∣ n):n.tdiv g=n / g:=Int.tdiv_eq_ediv_of_dvd hd
theorem lo_q {n d:Int} (h:0<d):n.tdiv ((Int.gcd n d:Nat):Int)=(Rat.divInt n d).num/\d.tdiv ((Int.gcd n d:Nat):Int)=((Rat.divInt n d).den:Int):=by
 rw [tdiv_gcd (Int.gcd_dvd_left n d),tdiv_gcd (Int.gcd_dvd_right n d),Rat.num_divInt,Rat.den_divInt,if_neg (by omega),Int.gcd_comm d n,Int.sign_eq_one_of_pos h,Int.one_mul]
 refine ⟨rfl,?_⟩
 rw [Int.natCast_ediv]
 congr 1
 omega
def qT (x:Rat):To:=.st [.bo (decide (x.num<0)),.li false (digs x.num.natAbs),.bo (decide ((x.den:Int)<0)),.li false (digs (x.den:Int).natAbs)]
def qIn (p q:Bool) (n d:List Int):Rat:=Rat.divInt (zv p n) (zv q d)
structure OkQ (p q:Bool) (n d:List Int):Prop where
 hn:okL p n
 hd:okL q d
 hq:q=false
 ne:d≠[]
 ln:n.length<=600
 ld:d.length<=600
 cop:Int.gcd (zv p n) (zv q d)=1
theorem OkQ.pos {p q:Bool} {n d:List Int} (h:OkQ p q n d):0<zv q d:=by
 have h1:=val_nonneg h.hd.1
 have h2:=val_ne h.hd.1 h.hd.2.1 h.ne
 rw [h.hq]
 show 0<val d
 omega
theorem OkQ.parts {p q:Bool} {n d:List Int} (h:OkQ p q n d):(qIn p q n d).num=zv p n/\((qIn p q n d).den:Int)=zv q d:=by
 obtain ⟨h1,h2⟩:=lo_q (n:=zv p n) h.pos
 rw [h.cop] at h1 h2
 exact ⟨by rw [show qIn p q n d=Rat.divInt (zv p n) (zv q d) from rfl,<- h1]; exact Int.tdiv_one _,by rw [show qIn p q n d=Rat.divInt (zv p n) (zv q d) from rfl,<- h2]; exact Int.tdiv_one _⟩
def SzQ (x:Rat):Prop:=(x.num.natAbs:Int)<pw 600/\(x.den:Int)<pw 600
theorem den_neg (x:Rat):decide ((x.den:Int)<0)=false:=decide_eq_false (by omega)
theorem qIn_q (x:Rat):qIn (decide (x.num<0)) (decide ((x.den:Int)<0)) (digs x.num.natAbs) (digs (x.den:Int).natAbs)=x:=by
 unfold qIn
 rw [zv_digs,zv_digs]
 exact Rat.num_divInt_den x
theorem pw6:pw 600<=pw 500000:=pw_mono (by decide)
theorem okQ_q {x:Rat} (h:SzQ x):OkQ (decide (x.num<0)) (decide ((x.den:Int)<0)) (digs x.num.natAbs) (digs (x.den:Int).natAbs):=by
 have h6:=pw6
 have h1:=h.1
 have h2:=h.2
 have hden:=x.den_nz
 refine ⟨okL_digs (by omega),okL_digs (by omega),den_neg x,fun e=>?_,len_digs (by omega),len_digs (by omega),?_⟩
 .have:=digs_nil.1 e; omega
 .rw [zv_digs,zv_digs]
  exact x.reduced
theorem len_abs {p:Bool} {n:List Int} (h:okL p n):((zv p n).natAbs:Int)<pw n.length:=by
 have:=val_lt h.1
 have:=val_nonneg h.1
 cases p <;> simp only [zv,cond_true,cond_false] <;> omega
theorem mul_len {x y:Int} {k l:Nat} (hx:(x.natAbs:Int)<pw k) (hy:(y.natAbs:Int)<pw l):((x*y).natAbs:Int)<pw (k+l):=by
 rw [Int.natAbs_mul,pw_add,Int.natCast_mul]
 have h0:(0:Int)<=x.natAbs:=by omega
 have h1:(0:Int)<=y.natAbs:=by omega
 have h2:=pw_pos k
 calc (x.natAbs:Int)*y.natAbs<=x.natAbs*pw l:=Int.mul_le_mul_of_nonneg_left (by omega) h0
  _<pw k*pw l:=Int.mul_lt_mul_of_pos_right hx (pw_pos l)
end Go.Dg
namespace Go.Dg
end Go.Dg
namespace Go.Dg
end Go.Dg
namespace Go.Proofs.YtjcicegihechmaaGreatDoor.K
open Go Go.Eng Go.Dg
noncomputable section
def psL2:List Ma:=[.st [.nu .b,.li],.st [.nu .b,.li]]
def loV:List Nu->List (List Int)->Option (Prop×To)
 | [.t p,.t q],[n,d]=>some (okL p n/\okL q d/\d≠[]/\n.length<=150000/\d.length<=150000,qT (Rat.divInt (zv p n) (zv q d)))
 | _,_=>none
theorem gcd_ok {x y:Int} {k:Nat} (hy:y≠0) (h:(y.natAbs:Int)<pw k) (hk:k<=200000):okL (decide (((Int.gcd x y:Nat):Int)<0)) (digs ((Int.gcd x y:Nat):Int).natAbs)/\digs ((Int.gcd x y:Nat):Int).natAbs≠[]/\(digs ((Int.gcd x y:Nat):Int).natAbs).length<=k:=by
 have h1:Int.gcd x y<=y.natAbs:=Nat.le_of_dvd (by omega) (Nat.gcd_dvd_right x.natAbs y.natAbs)
 have h2:Int.gcd x y≠0:=fun e=>hy (Int.gcd_eq_zero_iff.1 e).2
 have h3:=pw_mono (show k<=500000 by omega)
 have e:((Int.gcd x y:Nat):Int).natAbs=Int.gcd x y:=by omega
 refine ⟨okL_digs (by omega),fun e2=>?_,len_digs (by omega)⟩
 have:=digs_nil.1 e2
 omega
theorem lowest_ok:NOk Tryz.prog (fun _=>none) hG0 112 (mSpec hG0 .i64 psL2 loV):=by
 refine msp_runs (fun xs ys p t e h=>?_) ⟨_,Tryz.func112,rfl⟩
 unfold loV at e
 split at e
 .rename_i p q n d
  cases e
  obtain ⟨hn,hd,ne,ln,ld⟩:=h
  have hz:zv q d≠0:=fun e=>ne (hd.nil.2 e)
  have an:=len_abs hn
  have ad:=len_abs hd
  obtain ⟨g1,g2,g3⟩:=gcd_ok (x:=zv p n) hz ad (by omega)
  have gp:Int.gcd (zv p n) (zv q d)≠0:=fun e=>hz (Int.gcd_eq_zero_iff.1 e).2
  cases q with
  | false=>
   have hpos:0<zv false d:=by
    have:=val_nonneg hd.1
    have:=val_ne hd.1 hd.2.1 ne
    show 0<val d
    omega
   obtain ⟨l1,l2⟩:=lo_q (n:=zv p n) hpos
   refine ⟨cLo false,300,suArgs p false n d,_,_,_,_,_,cLo_ok false,rfl,rfl,⟨⟨rfl,rfl,trivial⟩,⟨rfl,rfl,trivial⟩,trivial⟩,lo_p p false n d,rfl,⟨rfl,⟨⟨rfl,rfl⟩,hn,hd,by omega,by omega⟩,⟨⟨rfl,rfl⟩,hn,g1,g2,by omega⟩,⟨rfl,rfl⟩,hd,g1,g2,by omega⟩,rfl,rfl,⟨?_,⟨?_,?_⟩,?_,?_,?_⟩⟩
   .show decide ((zv p n).tdiv (zv _ _)<0)=decide ((Rat.divInt (zv p n) (zv false d)).num<0)
    rw [zv_digs,l1]
   .rfl
   .show digs ((zv p n).tdiv (zv _ _)).natAbs=digs (Rat.divInt (zv p n) (zv false d)).num.natAbs
    rw [zv_digs,l1]
   .show decide ((zv false d).tdiv (zv _ _)<0)=decide (((Rat.divInt (zv p n) (zv false d)).den:Int)<0)
    rw [zv_digs,l2]
   .rfl
   .show digs ((zv false d).tdiv (zv _ _)).natAbs=digs ((Rat.divInt (zv p n) (zv false d)).den:Int).natAbs
    rw [zv_digs,l2]
  | true=>
   have hpos:0 < -zv true d:=by
    have:=hd.val_pos rfl
    show 0 < - -val d
    omega
   have h5:=pw_mono (show n.length<=500000 by omega)
   have h6:=pw_mono (show d.length<=500000 by omega)
   have en:(-zv p n).natAbs=(zv p n).natAbs:=Int.natAbs_neg _
   have ed:(-zv true d).natAbs=(zv true d).natAbs:=Int.natAbs_neg _
   have on:okL (decide (-zv p n<0)) (digs (-zv p n).natAbs):=okL_digs (by omega)
   have od:okL (decide (-zv true d<0)) (digs (-zv true d).natAbs):=okL_digs (by omega)
   have lnn:(digs (-zv p n).natAbs).length<=n.length:=len_digs (by omega)
   have ldd:(digs (-zv true d).natAbs).length<=d.length:=len_digs (by omega)
   obtain ⟨g1,g2,g3⟩:=gcd_ok (x:=-zv p n) (y:=-zv true d) (k:=d.length) (by omega) (by omega) (by omega)
   obtain ⟨l1,l2⟩:=lo_q (n:=-zv p n) hpos
   rw [Rat.neg_divInt_neg] at l1 l2
   refine ⟨cLo true,300,suArgs p true n d,_,_,_,_,_,cLo_ok true,rfl,rfl,⟨⟨rfl,rfl,trivial⟩,⟨rfl,rfl,trivial⟩,trivial⟩,lo_n p true n d,rfl,⟨⟨rfl,⟨rfl,hn⟩,⟨rfl,rfl⟩,rfl,hd⟩,⟨⟨rfl,rfl⟩,on,od,by omega,by omega⟩,⟨⟨rfl,rfl⟩,on,by rw [zv_digs,zv_digs]; exact g1,by rw [zv_digs,zv_digs]; exact g2,by rw [zv_digs,zv_digs]; omega⟩,⟨rfl,rfl⟩,od,by rw [zv_digs,zv_digs]; exact g1,by rw [zv_digs,zv_digs]; exact g2,by rw [zv_digs,zv_digs]; omega⟩,rfl,rfl,⟨?_,⟨?_,?_⟩,?_,?_,?_⟩⟩
   .show decide ((zv _ _).tdiv (zv _ _)<0)=decide ((Rat.divInt (zv p n) (zv true d)).num<0)
    rw [zv_digs,zv_digs,zv_digs,l1]
   .rfl
   .show digs ((zv _ _).tdiv (zv _ _)).natAbs=digs (Rat.divInt (zv p n) (zv true d)).num.natAbs
    rw [zv_digs,zv_digs,zv_digs,l1]
   .show decide ((zv _ _).tdiv (zv _ _)<0)=decide (((Rat.divInt (zv p n) (zv true d)).den:Int)<0)
    rw [zv_digs,zv_digs,zv_digs,l2]
   .rfl
   .show digs ((zv _ _).tdiv (zv _ _)).natAbs=digs ((Rat.divInt (zv p n) (zv true d)).den:Int).natAbs
    rw [zv_digs,zv_digs,zv_digs,l2]
 .cases e
def psQ:List Ma:=[.st [.nu .b,.li,.nu .b,.li]]
def psQ2:List Ma:=[.st [.nu .b,.li,.nu .b,.li],.st [.nu .b,.li,.nu .b,.li]]
def rqV:List Nu->List (List Int)->Option (Prop×To)
 | [.t p,.t q],[n,d]=>some (OkQ p q n d,.pb true)
 | _,_=>none
theorem rightq_ok:NOk Tryz.prog (fun _=>none) hG0 87 (mSpec hG0 .i64 psQ rqV):=by
 refine msp_runs (fun xs ys p t e h=>?_) ⟨_,Tryz.func87,rfl⟩
 unfold rqV at e
 split at e
 .rename_i p q n d
  cases e
  have hpos:=List.length_pos_iff.2 h.ne
  have e1:Sm (digs ((Int.gcd (zv p n) (zv q d):Nat):Int).natAbs)/\Sm (digs (Int.natAbs 1)):=by
   rw [h.cop]
   have:(digs 1).length<=1:=len_digs (by decide)
   exact ⟨by show (digs 1).length<=500000; omega,by show (digs 1).length<=500000; omega⟩
  refine ⟨cRq,300,rqArgs p q n d,_,_,_,_,_,cRq_ok,rfl,rfl,⟨⟨rfl,rfl,rfl,rfl,trivial⟩,trivial⟩,rq_t p q n d,rfl,⟨⟨rfl,h.hn,h.ln⟩,⟨rfl,h.hd,h.ld⟩,by rw [h.hq]; rfl,decide_eq_true (by omega),⟨⟨rfl,rfl⟩,h.hn,h.hd,by have:=h.ln; omega,by have:=h.ld; omega⟩,by decide,⟨⟨rfl,rfl⟩,e1⟩,?_⟩,rfl,rfl,rfl⟩
  rw [h.cop]
  exact decide_eq_true ⟨by decide,rfl⟩
 .cases e
def tQ2:List (FuncId×NSpec):=(112,mSpec hG0 .i64 psL2 loV) :: (87,mSpec hG0 .i64 psQ rqV) :: tQ1
theorem tQ2_ok:∀ x∈tQ2,NOk Tryz.prog (fun _=>none) hG0 x.1 x.2:=by
 intro x hx
 rcases List.mem_cons.1 hx with rfl|hx
 .exact lowest_ok
 rcases List.mem_cons.1 hx with rfl|hx
 .exact rightq_ok
 exact tQ1_ok x hx
def sqArgs (p q r s:Bool) (n d m e:List Int):List AV:=[.agg [.bool true p,.lslice 0 n.length,.bool true q,.lslice 1 d.length],.agg [.bool true r,.lslice 2 m.length,.bool true s,.lslice 3 e.length]]
def sqH (n d m e:List Int):Hp:=viewsH true hG0 [(.i64,n),(.i64,d),(.i64,m),(.i64,e)]
end
end Go.Proofs.YtjcicegihechmaaGreatDoor.K
namespace Go.Proofs.YtjcicegihechmaaGreatDoor.K
open Go Go.Eng Go.Dg
noncomputable section
end
end Go.Proofs.YtjcicegihechmaaGreatDoor.K
namespace Go.Proofs.YtjcicegihechmaaGreatDoor.K
open Go Go.Eng Go.Dg
noncomputable section
structure OkR (p q:Bool) (n d:List Int):Prop where
 hn:okL p n
 hd:okL q d
 ne:d≠[]
 ln:n.length<=2000
 ld:d.length<=2000
end
end Go.Proofs.YtjcicegihechmaaGreatDoor.K
namespace Go.Proofs.YtjcicegihechmaaGreatDoor.K
open Go Go.Eng Go.Dg
noncomputable section
def tQ4:List (FuncId×NSpec):=
 tQ2
theorem tQ4_ok:∀ x∈tQ4,NOk Tryz.prog (fun _=>none) hG0 x.1 x.2:=by
 intro x hx
 exact tQ2_ok x hx
def cQ4 (l:List (Nat×AV)):Ctx:=hinting (mkN Tryz.prog (fun _=>none) hG0 tQ4 [] noExt) (hintsT l)
theorem cQ4_ok (l:List (Nat×AV)):CtxOk (cQ4 l):=hinting_ok (mkN_ok prog_ok (noExt_ok _) tQ4_ok (fun x h=>by cases h)) _
end
end Go.Proofs.YtjcicegihechmaaGreatDoor.K
namespace Go.Ar
open Go
theorem sqQ_eq (i k:Nat) (hi:i<=42) (hr:2 ^ (43 - i)*k<2 ^ 43):sqQ (i:Int) ((2 ^ (43 - i)*k:Nat):Int)=((2 ^ (43 - i)*k+2 ^ (42 - i):Nat):Int):=by
 have e1:IntKind.i64.wrap (42 - (i:Int))=((42 - i:Nat):Int):=by rw [i64w (by omega) (by omega)]; omega
 have e2:min (((42 - i:Nat):Int)).toNat IntKind.u64.bits=42 - i:=by
  rw [Int.toNat_natCast]; exact Nat.min_eq_left (Nat.le_trans (Nat.sub_le _ _) (by decide))
 have p1:2 ^ (42 - i)<=2 ^ 42:=Nat.pow_le_pow_right (by decide) (by omega)
 have e3:IntKind.u64.wrap (1*2 ^ (42 - i))=((2 ^ (42 - i):Nat):Int):=by
  rw [Int.one_mul,show (2:Int) ^ (42 - i)=((2 ^ (42 - i):Nat):Int) from (Int.natCast_pow 2 _).symm]
  generalize 2 ^ (42 - i)=P at p1
  exact u64w (by omega) (by omega)
 unfold sqQ
 rw [e1,e2,e3]
 rw [Go.Eng.dOr_eq _ _ (by omega) (by omega)]
 congr 1
 rw [<- Nat.two_pow_add_eq_or_of_lt (Nat.pow_lt_pow_right (by decide) (by omega)) k]
theorem lex_iff (t n:Nat) (ht:t<18446744073709551616):sqLe (xHi (n:Int)) (xLo (n:Int)) (t:Int)=decide (t*t<=n):=by
 unfold sqLe xHi xLo two64
 have e1:((t:Int)*t) / 18446744073709551616=((t*t / 18446744073709551616:Nat):Int):=by rw [Int.natCast_ediv,Int.natCast_mul]; rfl
 have e2:((t:Int)*t) % 18446744073709551616=((t*t % 18446744073709551616:Nat):Int):=by rw [Int.natCast_emod,Int.natCast_mul]; rfl
 have e3:(n:Int) / 18446744073709551616=((n / 18446744073709551616:Nat):Int):=by rw [Int.natCast_ediv]; rfl
 have e4:(n:Int) % 18446744073709551616=((n % 18446744073709551616:Nat):Int):=by rw [Int.natCast_emod]; rfl
 rw [e1,e2,e3,e4]
 generalize t*t=m
 rw [Bool.eq_iff_iff]
 by_cases h1:m / 18446744073709551616<n / 18446744073709551616
 .have:((m / 18446744073709551616:Nat):Int)<((n / 18446744073709551616:Nat):Int):=by omega
  simp only [this,decide_true,cond_true,true_iff,decide_eq_true_eq]
  omega
 .have:¬ ((m / 18446744073709551616:Nat):Int)<((n / 18446744073709551616:Nat):Int):=by omega
  simp only [this,decide_false,cond_false,decide_eq_true_eq]
  by_cases h2:m / 18446744073709551616=n / 18446744073709551616
  .rw [h2]
   simp only [beq_self_eq_true,cond_true,decide_eq_true_eq]
   omega
  .have:(((m / 18446744073709551616:Nat):Int)==((n / 18446744073709551616:Nat):Int))=false:=by
    rw [beq_eq_false_iff_ne]; omega
   rw [this]
   simp only [cond_false,Bool.false_eq_true,false_iff]
   omega
theorem sqFin_spec (n:Nat):∀ (m i k:Nat),i+m=43->2 ^ (43 - i)*k<2 ^ 43->(2 ^ (43 - i)*k)*(2 ^ (43 - i)*k)<=n->n<(2 ^ (43 - i)*k+2 ^ (43 - i))*(2 ^ (43 - i)*k+2 ^ (43 - i)) ->
  ∃ r:Nat,sqFin (xHi (n:Int)) (xLo (n:Int)) m (i:Int) ((2 ^ (43 - i)*k:Nat):Int)=(r:Int)/\r*r<=n/\n<(r+1)*(r+1)/\r<2 ^ 43
 | 0,i,k,hi,h1,h2,h3=>by
  have:i=43:=by omega
  subst this
  exact ⟨2 ^ (43 - 43)*k,rfl,h2,h3,h1⟩
 | m+1,i,k,hi,h1,h2,h3=>by
  have p:2 ^ (43 - i)=2*2 ^ (43 - (i+1)):=by
   rw [show 43 - i=(43 - (i+1))+1 by omega,Nat.pow_succ]; omega
  have e1:IntKind.i64.wrap ((i:Int)+1)=((i+1:Nat):Int):=by rw [i64w (by omega) (by omega)]; omega
  have e2:=sqQ_eq i k (by omega) h1
  rw [show 42 - i=43 - (i+1) by omega] at e2
  simp only [sqFin]
  rw [e1]
  unfold sqStep
  rw [e2]
  generalize hq:2 ^ (43 - (i+1))=q at *
  have hq1:1<=q:=by rw [<- hq]; exact Nat.one_le_two_pow
  have hb:2 ^ (43 - i)*k+q<2 ^ 43:=by
   rw [p]
   have h4:2 ^ (43 - i)*(2 ^ i)=2 ^ 43:=by rw [<- Nat.pow_add]; congr 1; omega
   rw [p] at h4
   have:k<2 ^ i:=by
    rw [p,<- h4] at h1
    exact Nat.lt_of_mul_lt_mul_left h1
   have h5:2*q*(k+1)<=2*q*2 ^ i:=Nat.mul_le_mul_left _ this
   rw [h4,Nat.mul_add] at h5
   omega
  rw [lex_iff _ n (by omega)]
  by_cases h:(2 ^ (43 - i)*k+q)*(2 ^ (43 - i)*k+q)<=n
  .rw [decide_eq_true h,cond_true]
   have hk:2 ^ (43 - i)*k+q=q*(2*k+1):=by rw [p,Nat.mul_add,Nat.mul_one,<- Nat.mul_assoc,Nat.mul_comm q 2]
   have hs:q*(2*k+1)+q=2 ^ (43 - i)*k+2 ^ (43 - i):=by rw [<- hk,p]; omega
   rw [hk] at h hb ⊢
   have:=sqFin_spec n m (i+1) (2*k+1) (by omega) (by rw [hq]; exact hb) (by rw [hq]; exact h) (by rw [hq,hs]; exact h3)
   rw [hq] at this
   exact this
  .rw [decide_eq_false h,cond_false]
   have hk:2 ^ (43 - i)*k=q*(2*k):=by rw [p,<- Nat.mul_assoc,Nat.mul_comm q 2]
   rw [hk] at h h1 h2 ⊢
   have:=sqFin_spec n m (i+1) (2*k) (by omega) (by rw [hq]; exact h1) (by rw [hq]; exact h2) (by rw [hq]; omega)
   rw [hq] at this
   exact this
theorem sq_spec (a:Nat) (ha:a<=4503599627370496):∃ r:Nat,sqFin (xHi (IntKind.u64.wrap a*4294967296)) (xLo (IntKind.u64.wrap a*4294967296)) 43 0 0=(r:Int)/\r*r<=a*4294967296/\a*4294967296<(r+1)*(r+1)/\r<2 ^ 43:=by
 rw [u64w (n:=(a:Int)) (by omega) (by omega)]
 have:=sqFin_spec (a*4294967296) 43 0 0 rfl (by decide) (by omega) (by simp; omega)
 simpa using this
def sqP2 (a:Int):Int:=IntKind.u64.wrap a*4294967296
def sqR (a:Int):Int:=sqFin (xHi (sqP2 a)) (xLo (sqP2 a)) 43 0 0
def sqBad (a:Int):Bool:=bif xC a != 0 then true else decide (a<0)
def sqUp (a:Int):Int:=bif !(sqR a*sqR a / two64==xHi (sqP2 a)&&(sqR a*sqR a % two64==xLo (sqP2 a)&&true)) then IntKind.u64.wrap (sqR a+1) else sqR a
def xSqV (a:Int) (up:Bool):Int:=bif sqBad a then 0 else bif decide ((bif up then sqUp a else sqR a)>4503599627370496) then 0 else IntKind.i64.wrap (bif up then sqUp a else sqR a)
def xSqE (a:Int) (up:Bool):Int:=bif sqBad a then 2 else bif decide ((bif up then sqUp a else sqR a)>4503599627370496) then 6 else 0
def rtV (a:Int) (up:Bool):Int:=bif up&&!(sqR a*sqR a==a*4294967296) then sqR a+1 else sqR a
def sqOk (a:Int):Bool:=okF a&&decide (0<=a)
theorem sqBad_eq (a:Int):sqBad a=!sqOk a:=by
 unfold sqBad sqOk
 rw [xC_eq]
 cases okF a with
 | false=>simp
 | true=>by_cases h:a<0 <;> simp [h] <;> omega
theorem sqR_spec {a:Int} (h:sqOk a=true):0<=sqR a/\sqR a*sqR a<=a*4294967296/\a*4294967296<(sqR a+1)*(sqR a+1)/\sqR a<8796093022208:=by
 simp only [sqOk,Bool.and_eq_true,decide_eq_true_eq] at h
 obtain ⟨h1,h2⟩:=h
 have h1:=okF_iff.1 h1
 obtain ⟨r,e,r1,r2,r3⟩:=sq_spec a.toNat (by omega)
 rw [Int.toNat_of_nonneg h2] at e
 have e:sqR a=r:=e
 rw [e]
 have c1:((r*r:Nat):Int)=(r:Int)*r:=Int.natCast_mul r r
 have c2:(((r+1)*(r+1):Nat):Int)=((r:Int)+1)*(r+1):=by rw [Int.natCast_mul]; rfl
 refine ⟨by omega,by omega,by omega,by omega⟩
end Go.Ar
namespace Go.Ar
open Go
structure Sp where
 lo:Int
 hi:Int
 e:Int
def err (e:Int):Sp:=⟨0,0,e⟩
def okSp (a b:Int):Bool:=decide (-4503599627370496<=a)&&(decide (a<=b)&&decide (b<=4503599627370496))
def toldS (lo hi:Int):Sp:=bif okF lo&&okF hi then ⟨lo,hi,0⟩ else err 6
def mn (a b:Int):Int:=bif decide (b<a) then b else a
def mx (a b:Int):Int:=bif decide (a<b) then b else a
def both (a b c d:Int) (r:Sp):Sp:=bif okSp a b&&okSp c d then r else err 20
def addS (a b c d:Int):Sp:=both a b c d (toldS (a+c) (b+d))
def subS (a b c d:Int):Sp:=both a b c d (toldS (a - d) (b - c))
def hull4 (F:Int->Int->Bool->Int) (a b c d:Int):Sp:=
 toldS (mn (mn (mn (F a c false) (F a d false)) (F b c false)) (F b d false)) (mx (mx (mx (F a c true) (F a d true)) (F b c true)) (F b d true))
def mF (x y:Int) (up:Bool):Int:=rd (x*y) 4294967296 up
def dF (x y:Int) (up:Bool):Int:=rd (sg (x*4294967296) y) (sg y y) up
def mulS (a b c d:Int):Sp:=both a b c d (hull4 mF a b c d)
def divS (a b c d:Int):Sp:=both a b c d (bif decide (c<=0)&&decide (0<=d) then err 7 else hull4 dF a b c d)
def abL (a b:Int):Int:=mx (mx a (-b)) 0
def abH (a b:Int):Int:=mx b (-a)
def sqrS (a b:Int):Sp:=bif okSp a b then toldS (rd (abL a b*abL a b) 4294967296 false) (rd (abH a b*abH a b) 4294967296 true) else err 20
def sqrtS (a b:Int):Sp:=bif okSp a b then (bif decide (a<0) then err 2 else ⟨rtV a false,rtV b true,0⟩) else err 20
def okR (n d:Int):Bool:=decide (-4611686018427387904<=n)&&decide (n<=4611686018427387904)&&decide (1<=d)&&decide (d<=4611686018427387904)
def scaleS (a b n d:Int):Sp:=bif okSp a b then (bif okR n d then toldS (rd (mn (a*n) (b*n)) d false) (rd (mx (a*n) (b*n)) d true) else err 2) else err 20
def xCS (a b:Int):Int:=bif bif decide (a < -4503599627370496) then true else bif decide (a>b) then true else decide (b>4503599627370496) then 20 else 0
def xAll2 (a b c d:Int):Int:=bif !(xCS a b != 0)&&!(xCS c d != 0) then 0 else bif xCS a b != 0 then xCS a b else xCS c d
def xTb (l h:Int):Bool:=bif decide (l < -4503599627370496) then true else decide (h>4503599627370496)
def xTold (g l h:Int):Sp:=⟨bif g != 0 then 0 else bif xTb l h then 0 else l,bif g != 0 then 0 else bif xTb l h then 0 else h,bif g != 0 then g else bif xTb l h then 6 else 0⟩
def xAddS (a b c d:Int):Sp:=xTold (xAll2 a b c d) (IntKind.i64.wrap (a+c)) (IntKind.i64.wrap (b+d))
def tL (low lo:Int):Int:=bif decide (low<lo) then low else lo
def tH (low lo hi:Int):Int:=bif decide (low<lo) then hi else hi
def nL (low high lo hi:Int):Int:=bif decide (high>tH low lo hi) then tL low lo else tL low lo
def nH (low high lo hi:Int):Int:=bif decide (high>tH low lo hi) then high else tH low lo hi
def l1 (V:Int->Int->Bool->Int) (a c d:Int):Int:=nL (V a d false) (V a d true) (V a c false) (V a c true)
def h1 (V:Int->Int->Bool->Int) (a c d:Int):Int:=nH (V a d false) (V a d true) (V a c false) (V a c true)
def l2 (V:Int->Int->Bool->Int) (a b c d:Int):Int:=nL (V b c false) (V b c true) (l1 V a c d) (h1 V a c d)
def h2 (V:Int->Int->Bool->Int) (a b c d:Int):Int:=nH (V b c false) (V b c true) (l1 V a c d) (h1 V a c d)
def l3 (V:Int->Int->Bool->Int) (a b c d:Int):Int:=nL (V b d false) (V b d true) (l2 V a b c d) (h2 V a b c d)
def h3 (V:Int->Int->Bool->Int) (a b c d:Int):Int:=nH (V b d false) (V b d true) (l2 V a b c d) (h2 V a b c d)
def bad2 (E:Int->Int->Bool->Int) (x y:Int):Bool:=bif E x y false != 0 then true else E x y true != 0
def xsA (a b n:Int):Int:=bif decide (n<0) then IntKind.i64.wrap (0 - b) else a
def xsB (a b n:Int):Int:=bif decide (n<0) then IntKind.i64.wrap (0 - a) else b
def xsN (n:Int):Int:=bif decide (n<0) then IntKind.i64.wrap (0 - n) else n
def xsOk (n:Int):Bool:=bif decide (n<0) then !decide (n < -4611686018427387904) else true
def xsBad (a b n d:Int):Bool:=bif xScE (xsA a b n) (xsN n) d false != 0 then true else xScE (xsB a b n) (xsN n) d true != 0
def xScaleS (a b n d:Int):Sp:=
 ⟨bif xCS a b != 0 then 0 else bif xsOk n then (bif xsBad a b n d then 0 else xScV (xsA a b n) (xsN n) d false) else 0,
  bif xCS a b != 0 then 0 else bif xsOk n then (bif xsBad a b n d then 0 else xScV (xsB a b n) (xsN n) d true) else 0,
  bif xCS a b != 0 then xCS a b else bif xsOk n then (bif xsBad a b n d then (if xScE (xsB a b n) (xsN n) d true>xScE (xsA a b n) (xsN n) d false then xScE (xsB a b n) (xsN n) d true else xScE (xsA a b n) (xsN n) d false) else 0) else 2⟩
theorem okSp_iff {a b:Int}:okSp a b=true ↔ -4503599627370496<=a/\a<=b/\b<=4503599627370496:=by simp [okSp]
theorem xCS_eq (a b:Int):xCS a b=bif okSp a b then 0 else 20:=by
 unfold xCS
 cases h:okSp a b with
 | true=>
  have:=okSp_iff.1 h
  simp [show ¬ a < -4503599627370496 by omega,show ¬ a>b by omega,show ¬ b>4503599627370496 by omega]
 | false=>
  have:¬ (-4503599627370496<=a/\a<=b/\b<=4503599627370496):=fun k=>by rw [okSp_iff.2 k] at h; cases h
  by_cases h1:a < -4503599627370496
  .simp [h1]
  .by_cases h2:a>b
   .simp [h1,h2]
   .simp [h1,h2,show b>4503599627370496 by omega]
theorem xAll2_eq (a b c d:Int):xAll2 a b c d=bif okSp a b&&okSp c d then 0 else 20:=by
 unfold xAll2
 rw [xCS_eq,xCS_eq]
 cases okSp a b <;> cases okSp c d <;> rfl
theorem xTb_eq {l h:Int} (k:l<=h):xTb l h=!(okF l&&okF h):=by
 unfold xTb okF
 rw [Bool.eq_iff_iff]
 by_cases h1:l < -4503599627370496
 .simp [h1] <;> omega
 .simp [h1] <;> omega
theorem xTold_eq (a b c d l h:Int) (k:okSp a b=true->okSp c d=true->l<=h):xTold (xAll2 a b c d) l h=both a b c d (toldS l h):=by
 unfold xTold both
 rw [xAll2_eq]
 cases h1:okSp a b with
 | false=>simp [err]
 | true=>
  cases h2:okSp c d with
  | false=>simp [err]
  | true=>
   rw [xTb_eq (k h1 h2)]
   unfold toldS
   cases okF l&&okF h <;> simp [err]
theorem xAddS_eq (a b c d:Int):xAddS a b c d=addS a b c d:=by
 unfold xAddS addS
 rw [xTold_eq]
 .unfold both
  cases h1:okSp a b <;> cases h2:okSp c d <;> try rfl
  have:=okSp_iff.1 h1; have:=okSp_iff.1 h2
  rw [i64w (by omega) (by omega),i64w (by omega) (by omega)]
 .intro h1 h2
  have:=okSp_iff.1 h1; have:=okSp_iff.1 h2
  rw [i64w (by omega) (by omega),i64w (by omega) (by omega)]; omega
theorem rtV_range {a:Int} (h:sqOk a=true) (up:Bool):0<=rtV a up/\rtV a up<=8796093022208:=by
 obtain ⟨r0,r1,r2,r3⟩:=sqR_spec h
 unfold rtV
 cases up&&!(sqR a*sqR a==a*4294967296) <;> simp <;> omega
theorem mn_le (a b:Int):mn a b<=a/\mn a b<=b/\(mn a b=a\/mn a b=b):=by
 unfold mn
 by_cases h:b<a <;> simp [h] <;> omega
theorem le_mx (a b:Int):a<=mx a b/\b<=mx a b/\(mx a b=a\/mx a b=b):=by
 unfold mx
 by_cases h:a<b <;> simp [h] <;> omega
theorem rd_le (n d:Int) (hd:0<d):rd n d false<=rd n d true:=by
 unfold rd
 simp only [cond_true,cond_false]
 have h1:=Int.mul_ediv_add_emod n d
 have h2:=Int.emod_nonneg n (show d≠0 by omega)
 have h3:=Int.emod_lt_of_pos n hd
 have:=neg_div (p:=n) hd
 rw [this]; split <;> omega
theorem okF_of_sp {a b:Int} (h:okSp a b=true):okF a=true/\okF b=true:=by
 have:=okSp_iff.1 h
 exact ⟨okF_iff.2 (by omega),okF_iff.2 (by omega)⟩
end Go.Ar
