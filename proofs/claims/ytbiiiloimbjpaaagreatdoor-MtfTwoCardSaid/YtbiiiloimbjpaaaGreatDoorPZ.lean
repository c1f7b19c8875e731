/- What is proved: MtfTwo returns true, whatever the input (part 26). No conditions beyond those of the row. -/
import Derived.Test.YtbiiiloimbjpaaaGreatDoorPG
import Derived.Test.YtbiiiloimbjpaaaGreatDoorPI
import Derived.Test.YtbiiiloimbjpaaaGreatDoorPJ
import Derived.Test.YtbiiiloimbjpaaaGreatDoorPY
import Derived.KernelRfl
open Go.IntKind (i64 u64)
set_option linter.unusedVariables false
set_option linter.unusedSimpArgs false
set_option linter.unusedSectionVars false
namespace Go.Proofs.YtbiiiloimbjpaaaGreatDoor.K
open Go Go.Eng Go.Dg
noncomputable section
def WZ (p q:Bool) (a b:List Int) (i x:Int) (R:List Int):Prop:=((0:Int)=0/\(0:Int)=0)/\R=R
theorem amx (p q:Bool) (a b:List Int) (i x:Int) (R:List Int):fit (tiS p q a b i x R none none) (tiS p q a b i x R none none) (aJ (tiS p q a b i x R none none) ((tjU 8 R b).S (0,0,R))) ([])=some (.p (WZ p q a b i x R)):=by kernel_rfl
def W9 (p q:Bool) (a b:List Int) (i x:Int) (R:List Int) (j c:Int) (d:List Int):Prop:=(decide (j<(↑R.length:Int))=true->(((0:Int)<=j/\j<(↑R.length:Int))/\((0:Int)+j).toNat<d.length/\(decide (j<(↑b.length:Int))=true->((0:Int)<=j/\j<(↑b.length:Int))/\j.toNat<b.length)/\((0:Int)+j).toNat<d.length/\d.getD ((0:Int)+j).toNat (0:Int)=d.getD ((0:Int)+j).toNat (0:Int))/\((0:Int)<=j/\j<(↑R.length:Int))/\((0:Int)+j).toNat<d.length)/\((!decide (j<(↑R.length:Int)))=true->d=d/\(tjU (8:Nat) R b).F (j,c,d)=(Ex.exit (2:Nat),tjF (8:Nat) d))/\(decide (j<(↑R.length:Int))=true->(((tjC (qH b (tkK R b) j c d))=tjC (qH b (tkK R b) j c d)/\i64.wrap (j+1)=i64.wrap (j+1))/\d.set ((0:Int)+j).toNat (tjR (qH b (tkK R b) j c d))=d.set ((0:Int)+j).toNat (tjR (qH b (tkK R b) j c d)))/\(tjU (8:Nat) R b).I ((tjU (8:Nat) R b).next (j,c,d))/\(tjU (8:Nat) R b).μ ((tjU (8:Nat) R b).next (j,c,d))<(tjU (8:Nat) R b).μ (j,c,d)/\(tjU (8:Nat) R b).F ((tjU (8:Nat) R b).next (j,c,d))=(tjU (8:Nat) R b).F (j,c,d))
theorem amy (p q:Bool) (a b:List Int) (i x:Int) (R:List Int) (j c:Int) (d:List Int):dQ (tiS p q a b i x R none none) ((tjU 8 R b).way ((j,c,d))) ((run cL2 300).code lQ tkB (aJ (tiS p q a b i x R none none) ((tjU 8 R b).S (j,c,d))))=some (.p (W9 p q a b i x R j c d)):=by kernel_rfl
def Xa (lt:Bool) (p q:Bool) (a b:List Int) (i x:Int) (R:List Int):Prop:=((((((0:Int)<=0/\(0:Int)<=(↑R.length:Int)/\(0:Int)+(↑R.length:Int)<=(↑R.length:Int))/\(↑b.length:Int)=(↑b.length:Int))/\Sm (List.take (↑R.length:Int).toNat (List.drop (Int.toNat (0:Int)) R))/\Sm b)/\(!ja (List.take (↑R.length:Int).toNat (List.drop (Int.toNat (0:Int)) R)) b)=true)/\(((0:Int)<=i64.wrap ((↑b.length:Int) - (1:Int))/\i64.wrap ((↑b.length:Int) - (1:Int))<(↑R.length:Int))/\((0:Int)+i64.wrap ((↑b.length:Int) - (1:Int))).toNat<R.length/\((0:Int)<=i64.wrap ((↑b.length:Int) - (1:Int))/\i64.wrap ((↑b.length:Int) - (1:Int))<(↑b.length:Int))/\(i64.wrap ((↑b.length:Int) - (1:Int))).toNat<b.length/\(decide (i64.wrap (i64.wrap ((↑b.length:Int) - (1:Int))+1)<(↑R.length:Int))=true->((0:Int)<=i64.wrap (i64.wrap ((↑b.length:Int) - (1:Int))+1)/\i64.wrap (i64.wrap ((↑b.length:Int) - (1:Int))+1)<(↑R.length:Int))/\((0:Int)+i64.wrap (i64.wrap ((↑b.length:Int) - (1:Int))+1)).toNat<R.length)/\(((i64.wrap ((↑b.length:Int) - (1:Int))).toNat<b.length/\b.getD (i64.wrap ((↑b.length:Int) - (1:Int))).toNat (0:Int)=b.getD (i64.wrap ((↑b.length:Int) - (1:Int))).toNat (0:Int))/\((0:Int)+i64.wrap ((↑b.length:Int) - (1:Int))).toNat<R.length/\R.getD ((0:Int)+i64.wrap ((↑b.length:Int) - (1:Int))).toNat (0:Int)=R.getD ((0:Int)+i64.wrap ((↑b.length:Int) - (1:Int))).toNat (0:Int))/\i64.wrap (b.getD (i64.wrap ((↑b.length:Int) - (1:Int))).toNat (0:Int)+1)≠0)/\At (lQ) (lQ) (tkB) (tkB) (tiS p q a b i x R none none) (tiS p q a b i x R none none)/\((0:Int)<=0/\(0:Int)<=(↑R.length:Int)/\(0:Int)+(↑R.length:Int)<=(↑(cB (tkD R none).length (val (tkD R none) - tkK (tkD R none) b*val b)).length:Int))/\Dig (List.take (↑R.length:Int).toNat (List.drop (Int.toNat (0:Int)) (cB (tkD R none).length (val (tkD R none) - tkK (tkD R none) b*val b))))/\Sm (List.take (↑R.length:Int).toNat (List.drop (Int.toNat (0:Int)) (cB (tkD R none).length (val (tkD R none) - tkK (tkD R none) b*val b)))))/\(true=true->((((0:Int)=0/\(↑(aA (val (List.take (↑R.length:Int).toNat (List.drop (Int.toNat (0:Int)) (cB (tkD R none).length (val (tkD R none) - tkK (tkD R none) b*val b))))).toNat).length:Int)=(↑(aA (val R - tkK R b*val b).toNat).length:Int))/\i64.wrap ((0:Int)+tkK R b)=i64.wrap ((0:Int)+tkK R b))/\aA (val (List.take (↑R.length:Int).toNat (List.drop (Int.toNat (0:Int)) (cB (tkD R none).length (val (tkD R none) - tkK (tkD R none) b*val b))))).toNat=aA (val R - tkK R b*val b).toNat)/\(tkU false lt R b).I ((tkU false lt R b).next none)/\(tkU false lt R b).μ ((tkU false lt R b).next none)<(tkU false lt R b).μ none/\(tkU false lt R b).F ((tkU false lt R b).next none)=(tkU false lt R b).F none)
theorem amz (lt:Bool) (p q:Bool) (a b:List Int) (i x:Int) (R:List Int):dQ (tkS p q a b i x R none) ((tkU false lt R b).way (none)) ((run (cTi p q a b i x R none none) 300).code lQ tkA (aJ (tkS p q a b i x R none) ((tkU false lt R b).S none)))=some (.p (Xa lt p q a b i x R)):=by kernel_rfl
def Xb (lt:Bool) (p q:Bool) (a b:List Int) (i x:Int) (R:List Int):Prop:=(((((0:Int)<=0/\(0:Int)<=(↑R.length:Int)/\(0:Int)+(↑R.length:Int)<=(↑R.length:Int))/\(↑b.length:Int)=(↑b.length:Int))/\Sm (List.take (↑R.length:Int).toNat (List.drop (Int.toNat (0:Int)) R))/\Sm b)/\(!ja (List.take (↑R.length:Int).toNat (List.drop (Int.toNat (0:Int)) R)) b)=false)/\(true=true->(0:Int)=0/\(tkU false lt R b).F none=(Ex.exit (0:Nat),tkP false none))
theorem amA (lt:Bool) (p q:Bool) (a b:List Int) (i x:Int) (R:List Int):dQ (tkS p q a b i x R none) ((tkU false lt R b).way (none)) ((run cTe 300).code lQ tkA (aJ (tkS p q a b i x R none) ((tkU false lt R b).S none)))=some (.p (Xb lt p q a b i x R)):=by kernel_rfl
def Xc (p q:Bool) (a b:List Int) (i x:Int) (R:List Int) (r n:Int):Prop:=((0:Int)=0/\(0:Int)=0)/\aA r.toNat=aA r.toNat
theorem amB (p q:Bool) (a b:List Int) (i x:Int) (R:List Int) (r n:Int):fit (tiS p q a b i x R none (some (r,n))) (tiS p q a b i x R none (some (r,n))) (aJ (tiS p q a b i x R none (some (r,n))) ((tjU 9 (aA r.toNat) b).S (0,0,(aA r.toNat)))) ([])=some (.p (Xc p q a b i x R r n)):=by kernel_rfl
def Xd (p q:Bool) (a b:List Int) (i x:Int) (R:List Int) (r n:Int) (j c:Int) (d:List Int):Prop:=(decide (j<(↑(aA r.toNat).length:Int))=true->(((0:Int)<=j/\j<(↑(aA r.toNat).length:Int))/\((0:Int)+j).toNat<d.length/\(decide (j<(↑b.length:Int))=true->((0:Int)<=j/\j<(↑b.length:Int))/\j.toNat<b.length)/\((0:Int)+j).toNat<d.length/\d.getD ((0:Int)+j).toNat (0:Int)=d.getD ((0:Int)+j).toNat (0:Int))/\((0:Int)<=j/\j<(↑(aA r.toNat).length:Int))/\((0:Int)+j).toNat<d.length)/\((!decide (j<(↑(aA r.toNat).length:Int)))=true->d=d/\(tjU (9:Nat) (aA r.toNat) b).F (j,c,d)=(Ex.exit (2:Nat),tjF (9:Nat) d))/\(decide (j<(↑(aA r.toNat).length:Int))=true->(((tjC (qH b (tkK (aA r.toNat) b) j c d))=tjC (qH b (tkK (aA r.toNat) b) j c d)/\i64.wrap (j+1)=i64.wrap (j+1))/\d.set ((0:Int)+j).toNat (tjR (qH b (tkK (aA r.toNat) b) j c d))=d.set ((0:Int)+j).toNat (tjR (qH b (tkK (aA r.toNat) b) j c d)))/\(tjU (9:Nat) (aA r.toNat) b).I ((tjU (9:Nat) (aA r.toNat) b).next (j,c,d))/\(tjU (9:Nat) (aA r.toNat) b).μ ((tjU (9:Nat) (aA r.toNat) b).next (j,c,d))<(tjU (9:Nat) (aA r.toNat) b).μ (j,c,d)/\(tjU (9:Nat) (aA r.toNat) b).F ((tjU (9:Nat) (aA r.toNat) b).next (j,c,d))=(tjU (9:Nat) (aA r.toNat) b).F (j,c,d))
theorem amC (p q:Bool) (a b:List Int) (i x:Int) (R:List Int) (r n:Int) (j c:Int) (d:List Int):dQ (tiS p q a b i x R none (some (r,n))) ((tjU 9 (aA r.toNat) b).way ((j,c,d))) ((run cL2 300).code lQ tkB (aJ (tiS p q a b i x R none (some (r,n))) ((tjU 9 (aA r.toNat) b).S (j,c,d))))=some (.p (Xd p q a b i x R r n j c d)):=by kernel_rfl
def Xe (lt:Bool) (p q:Bool) (a b:List Int) (i x:Int) (R:List Int) (r n:Int):Prop:=((((((0:Int)<=0/\(0:Int)<=(↑(aA r.toNat).length:Int)/\(0:Int)+(↑(aA r.toNat).length:Int)<=(↑(aA r.toNat).length:Int))/\(↑b.length:Int)=(↑b.length:Int))/\Sm (List.take (↑(aA r.toNat).length:Int).toNat (List.drop (Int.toNat (0:Int)) (aA r.toNat)))/\Sm b)/\(!ja (List.take (↑(aA r.toNat).length:Int).toNat (List.drop (Int.toNat (0:Int)) (aA r.toNat))) b)=true)/\(((0:Int)<=i64.wrap ((↑b.length:Int) - (1:Int))/\i64.wrap ((↑b.length:Int) - (1:Int))<(↑(aA r.toNat).length:Int))/\((0:Int)+i64.wrap ((↑b.length:Int) - (1:Int))).toNat<(aA r.toNat).length/\((0:Int)<=i64.wrap ((↑b.length:Int) - (1:Int))/\i64.wrap ((↑b.length:Int) - (1:Int))<(↑b.length:Int))/\(i64.wrap ((↑b.length:Int) - (1:Int))).toNat<b.length/\(decide (i64.wrap (i64.wrap ((↑b.length:Int) - (1:Int))+1)<(↑(aA r.toNat).length:Int))=true->((0:Int)<=i64.wrap (i64.wrap ((↑b.length:Int) - (1:Int))+1)/\i64.wrap (i64.wrap ((↑b.length:Int) - (1:Int))+1)<(↑(aA r.toNat).length:Int))/\((0:Int)+i64.wrap (i64.wrap ((↑b.length:Int) - (1:Int))+1)).toNat<(aA r.toNat).length)/\(((i64.wrap ((↑b.length:Int) - (1:Int))).toNat<b.length/\b.getD (i64.wrap ((↑b.length:Int) - (1:Int))).toNat (0:Int)=b.getD (i64.wrap ((↑b.length:Int) - (1:Int))).toNat (0:Int))/\((0:Int)+i64.wrap ((↑b.length:Int) - (1:Int))).toNat<(aA r.toNat).length/\(aA r.toNat).getD ((0:Int)+i64.wrap ((↑b.length:Int) - (1:Int))).toNat (0:Int)=(aA r.toNat).getD ((0:Int)+i64.wrap ((↑b.length:Int) - (1:Int))).toNat (0:Int))/\i64.wrap (b.getD (i64.wrap ((↑b.length:Int) - (1:Int))).toNat (0:Int)+1)≠0)/\At (lQ) (lQ) (tkB) (tkB) (tiS p q a b i x R none (some (r,n))) (tiS p q a b i x R none (some (r,n)))/\((0:Int)<=0/\(0:Int)<=(↑(aA r.toNat).length:Int)/\(0:Int)+(↑(aA r.toNat).length:Int)<=(↑(cB (tkD R (some (r,n))).length (val (tkD R (some (r,n))) - tkK (tkD R (some (r,n))) b*val b)).length:Int))/\Dig (List.take (↑(aA r.toNat).length:Int).toNat (List.drop (Int.toNat (0:Int)) (cB (tkD R (some (r,n))).length (val (tkD R (some (r,n))) - tkK (tkD R (some (r,n))) b*val b))))/\Sm (List.take (↑(aA r.toNat).length:Int).toNat (List.drop (Int.toNat (0:Int)) (cB (tkD R (some (r,n))).length (val (tkD R (some (r,n))) - tkK (tkD R (some (r,n))) b*val b)))))/\(true=true->((((0:Int)=0/\(↑(aA (val (List.take (↑(aA r.toNat).length:Int).toNat (List.drop (Int.toNat (0:Int)) (cB (tkD R (some (r,n))).length (val (tkD R (some (r,n))) - tkK (tkD R (some (r,n))) b*val b))))).toNat).length:Int)=(↑(aA (r - tkK (aA r.toNat) b*val b).toNat).length:Int))/\i64.wrap (n+tkK (aA r.toNat) b)=i64.wrap (n+tkK (aA r.toNat) b))/\aA (val (List.take (↑(aA r.toNat).length:Int).toNat (List.drop (Int.toNat (0:Int)) (cB (tkD R (some (r,n))).length (val (tkD R (some (r,n))) - tkK (tkD R (some (r,n))) b*val b))))).toNat=aA (r - tkK (aA r.toNat) b*val b).toNat)/\(tkU false lt R b).I ((tkU false lt R b).next (some (r,n)))/\(tkU false lt R b).μ ((tkU false lt R b).next (some (r,n)))<(tkU false lt R b).μ (some (r,n))/\(tkU false lt R b).F ((tkU false lt R b).next (some (r,n)))=(tkU false lt R b).F (some (r,n)))
theorem amD (lt:Bool) (p q:Bool) (a b:List Int) (i x:Int) (R:List Int) (r n:Int):dQ (tkS p q a b i x R none) ((tkU false lt R b).way ((some (r,n)))) ((run (cTi p q a b i x R none (some (r,n))) 300).code lQ tkA (aJ (tkS p q a b i x R none) ((tkU false lt R b).S (some (r,n)))))=some (.p (Xe lt p q a b i x R r n)):=by kernel_rfl
def Xf (lt:Bool) (p q:Bool) (a b:List Int) (i x:Int) (R:List Int) (r n:Int):Prop:=(((((0:Int)<=0/\(0:Int)<=(↑(aA r.toNat).length:Int)/\(0:Int)+(↑(aA r.toNat).length:Int)<=(↑(aA r.toNat).length:Int))/\(↑b.length:Int)=(↑b.length:Int))/\Sm (List.take (↑(aA r.toNat).length:Int).toNat (List.drop (Int.toNat (0:Int)) (aA r.toNat)))/\Sm b)/\(!ja (List.take (↑(aA r.toNat).length:Int).toNat (List.drop (Int.toNat (0:Int)) (aA r.toNat))) b)=false)/\(true=true->((((0:Int)=0/\(↑(aA r.toNat).length:Int)=(↑(aA r.toNat).length:Int))/\n=n)/\aA r.toNat=aA r.toNat)/\(tkU false lt R b).F (some (r,n))=(Ex.exit (0:Nat),tkP false (some (r,n))))
theorem amE (lt:Bool) (p q:Bool) (a b:List Int) (i x:Int) (R:List Int) (r n:Int):dQ (tkS p q a b i x R none) ((tkU false lt R b).way ((some (r,n)))) ((run cTe 300).code lQ tkA (aJ (tkS p q a b i x R none) ((tkU false lt R b).S (some (r,n)))))=some (.p (Xf lt p q a b i x R r n)):=by kernel_rfl
def ab6 (lt:Bool) (p q:Bool) (a b:List Int) (i x:Int) (R:List Int):Prop:=(0:Int)=0
theorem apv (lt:Bool) (p q:Bool) (a b:List Int) (i x:Int) (R:List Int):fit (tkS p q a b i x R none) (tkS p q a b i x R none) (aJ (tkS p q a b i x R none) ((tkU false lt R b).S none)) ([])=some (.p (ab6 lt p q a b i x R)):=by kernel_rfl
def Xg (p q:Bool) (a b:List Int) (i x:Int) (R:List Int) (s:List Int):Prop:=((0:Int)=0/\(0:Int)=0)/\R=R
theorem amF (p q:Bool) (a b:List Int) (i x:Int) (R:List Int) (s:List Int):fit (tiS p q a b i x R (some s) none) (tiS p q a b i x R (some s) none) (aJ (tiS p q a b i x R (some s) none) ((tjU 10 R b).S (0,0,R))) ([])=some (.p (Xg p q a b i x R s)):=by kernel_rfl
def Xh (p q:Bool) (a b:List Int) (i x:Int) (R:List Int) (s:List Int) (j c:Int) (d:List Int):Prop:=(decide (j<(↑R.length:Int))=true->(((0:Int)<=j/\j<(↑R.length:Int))/\((0:Int)+j).toNat<d.length/\(decide (j<(↑b.length:Int))=true->((0:Int)<=j/\j<(↑b.length:Int))/\j.toNat<b.length)/\((0:Int)+j).toNat<d.length/\d.getD ((0:Int)+j).toNat (0:Int)=d.getD ((0:Int)+j).toNat (0:Int))/\((0:Int)<=j/\j<(↑R.length:Int))/\((0:Int)+j).toNat<d.length)/\((!decide (j<(↑R.length:Int)))=true->d=d/\(tjU (10:Nat) R b).F (j,c,d)=(Ex.exit (2:Nat),tjF (10:Nat) d))/\(decide (j<(↑R.length:Int))=true->(((tjC (qH b (tkK R b) j c d))=tjC (qH b (tkK R b) j c d)/\i64.wrap (j+1)=i64.wrap (j+1))/\d.set ((0:Int)+j).toNat (tjR (qH b (tkK R b) j c d))=d.set ((0:Int)+j).toNat (tjR (qH b (tkK R b) j c d)))/\(tjU (10:Nat) R b).I ((tjU (10:Nat) R b).next (j,c,d))/\(tjU (10:Nat) R b).μ ((tjU (10:Nat) R b).next (j,c,d))<(tjU (10:Nat) R b).μ (j,c,d)/\(tjU (10:Nat) R b).F ((tjU (10:Nat) R b).next (j,c,d))=(tjU (10:Nat) R b).F (j,c,d))
theorem amG (p q:Bool) (a b:List Int) (i x:Int) (R:List Int) (s:List Int) (j c:Int) (d:List Int):dQ (tiS p q a b i x R (some s) none) ((tjU 10 R b).way ((j,c,d))) ((run cL2 300).code lQ tkB (aJ (tiS p q a b i x R (some s) none) ((tjU 10 R b).S (j,c,d))))=some (.p (Xh p q a b i x R s j c d)):=by kernel_rfl
def Xi (lt:Bool) (p q:Bool) (a b:List Int) (i x:Int) (R:List Int) (s:List Int):Prop:=((((((0:Int)<=0/\(0:Int)<=(↑R.length:Int)/\(0:Int)+(↑R.length:Int)<=(↑R.length:Int))/\(↑b.length:Int)=(↑b.length:Int))/\Sm (List.take (↑R.length:Int).toNat (List.drop (Int.toNat (0:Int)) R))/\Sm b)/\(!ja (List.take (↑R.length:Int).toNat (List.drop (Int.toNat (0:Int)) R)) b)=true)/\(((0:Int)<=i64.wrap ((↑b.length:Int) - (1:Int))/\i64.wrap ((↑b.length:Int) - (1:Int))<(↑R.length:Int))/\((0:Int)+i64.wrap ((↑b.length:Int) - (1:Int))).toNat<R.length/\((0:Int)<=i64.wrap ((↑b.length:Int) - (1:Int))/\i64.wrap ((↑b.length:Int) - (1:Int))<(↑b.length:Int))/\(i64.wrap ((↑b.length:Int) - (1:Int))).toNat<b.length/\(decide (i64.wrap (i64.wrap ((↑b.length:Int) - (1:Int))+1)<(↑R.length:Int))=true->((0:Int)<=i64.wrap (i64.wrap ((↑b.length:Int) - (1:Int))+1)/\i64.wrap (i64.wrap ((↑b.length:Int) - (1:Int))+1)<(↑R.length:Int))/\((0:Int)+i64.wrap (i64.wrap ((↑b.length:Int) - (1:Int))+1)).toNat<R.length)/\(((i64.wrap ((↑b.length:Int) - (1:Int))).toNat<b.length/\b.getD (i64.wrap ((↑b.length:Int) - (1:Int))).toNat (0:Int)=b.getD (i64.wrap ((↑b.length:Int) - (1:Int))).toNat (0:Int))/\((0:Int)+i64.wrap ((↑b.length:Int) - (1:Int))).toNat<R.length/\R.getD ((0:Int)+i64.wrap ((↑b.length:Int) - (1:Int))).toNat (0:Int)=R.getD ((0:Int)+i64.wrap ((↑b.length:Int) - (1:Int))).toNat (0:Int))/\i64.wrap (b.getD (i64.wrap ((↑b.length:Int) - (1:Int))).toNat (0:Int)+1)≠0)/\At (lQ) (lQ) (tkB) (tkB) (tiS p q a b i x R (some s) none) (tiS p q a b i x R (some s) none)/\((0:Int)<=0/\(0:Int)<=(↑R.length:Int)/\(0:Int)+(↑R.length:Int)<=(↑(cB (tkD R none).length (val (tkD R none) - tkK (tkD R none) b*val b)).length:Int))/\Dig (List.take (↑R.length:Int).toNat (List.drop (Int.toNat (0:Int)) (cB (tkD R none).length (val (tkD R none) - tkK (tkD R none) b*val b))))/\Sm (List.take (↑R.length:Int).toNat (List.drop (Int.toNat (0:Int)) (cB (tkD R none).length (val (tkD R none) - tkK (tkD R none) b*val b)))))/\(true=true->((((0:Int)=0/\(↑(aA (val (List.take (↑R.length:Int).toNat (List.drop (Int.toNat (0:Int)) (cB (tkD R none).length (val (tkD R none) - tkK (tkD R none) b*val b))))).toNat).length:Int)=(↑(aA (val R - tkK R b*val b).toNat).length:Int))/\i64.wrap ((0:Int)+tkK R b)=i64.wrap ((0:Int)+tkK R b))/\aA (val (List.take (↑R.length:Int).toNat (List.drop (Int.toNat (0:Int)) (cB (tkD R none).length (val (tkD R none) - tkK (tkD R none) b*val b))))).toNat=aA (val R - tkK R b*val b).toNat)/\(tkU true lt R b).I ((tkU true lt R b).next none)/\(tkU true lt R b).μ ((tkU true lt R b).next none)<(tkU true lt R b).μ none/\(tkU true lt R b).F ((tkU true lt R b).next none)=(tkU true lt R b).F none)
theorem amH (lt:Bool) (p q:Bool) (a b:List Int) (i x:Int) (R:List Int) (s:List Int):dQ (tkS p q a b i x R (some s)) ((tkU true lt R b).way (none)) ((run (cTi p q a b i x R (some s) none) 300).code lQ tkA (aJ (tkS p q a b i x R (some s)) ((tkU true lt R b).S none)))=some (.p (Xi lt p q a b i x R s)):=by kernel_rfl
def Xj (lt:Bool) (p q:Bool) (a b:List Int) (i x:Int) (R:List Int) (s:List Int):Prop:=(((((0:Int)<=0/\(0:Int)<=(↑R.length:Int)/\(0:Int)+(↑R.length:Int)<=(↑R.length:Int))/\(↑b.length:Int)=(↑b.length:Int))/\Sm (List.take (↑R.length:Int).toNat (List.drop (Int.toNat (0:Int)) R))/\Sm b)/\(!ja (List.take (↑R.length:Int).toNat (List.drop (Int.toNat (0:Int)) R)) b)=false)/\(true=true->(0:Int)=0/\(tkU true lt R b).F none=(Ex.exit (0:Nat),tkP true none))
theorem amI (lt:Bool) (p q:Bool) (a b:List Int) (i x:Int) (R:List Int) (s:List Int):dQ (tkS p q a b i x R (some s)) ((tkU true lt R b).way (none)) ((run cTe 300).code lQ tkA (aJ (tkS p q a b i x R (some s)) ((tkU true lt R b).S none)))=some (.p (Xj lt p q a b i x R s)):=by kernel_rfl
def Xk (p q:Bool) (a b:List Int) (i x:Int) (R:List Int) (s:List Int) (r n:Int):Prop:=((0:Int)=0/\(0:Int)=0)/\aA r.toNat=aA r.toNat
theorem amJ (p q:Bool) (a b:List Int) (i x:Int) (R:List Int) (s:List Int) (r n:Int):fit (tiS p q a b i x R (some s) (some (r,n))) (tiS p q a b i x R (some s) (some (r,n))) (aJ (tiS p q a b i x R (some s) (some (r,n))) ((tjU 11 (aA r.toNat) b).S (0,0,(aA r.toNat)))) ([])=some (.p (Xk p q a b i x R s r n)):=by kernel_rfl
def Xl (p q:Bool) (a b:List Int) (i x:Int) (R:List Int) (s:List Int) (r n:Int) (j c:Int) (d:List Int):Prop:=(decide (j<(↑(aA r.toNat).length:Int))=true->(((0:Int)<=j/\j<(↑(aA r.toNat).length:Int))/\((0:Int)+j).toNat<d.length/\(decide (j<(↑b.length:Int))=true->((0:Int)<=j/\j<(↑b.length:Int))/\j.toNat<b.length)/\((0:Int)+j).toNat<d.length/\d.getD ((0:Int)+j).toNat (0:Int)=d.getD ((0:Int)+j).toNat (0:Int))/\((0:Int)<=j/\j<(↑(aA r.toNat).length:Int))/\((0:Int)+j).toNat<d.length)/\((!decide (j<(↑(aA r.toNat).length:Int)))=true->d=d/\(tjU (11:Nat) (aA r.toNat) b).F (j,c,d)=(Ex.exit (2:Nat),tjF (11:Nat) d))/\(decide (j<(↑(aA r.toNat).length:Int))=true->(((tjC (qH b (tkK (aA r.toNat) b) j c d))=tjC (qH b (tkK (aA r.toNat) b) j c d)/\i64.wrap (j+1)=i64.wrap (j+1))/\d.set ((0:Int)+j).toNat (tjR (qH b (tkK (aA r.toNat) b) j c d))=d.set ((0:Int)+j).toNat (tjR (qH b (tkK (aA r.toNat) b) j c d)))/\(tjU (11:Nat) (aA r.toNat) b).I ((tjU (11:Nat) (aA r.toNat) b).next (j,c,d))/\(tjU (11:Nat) (aA r.toNat) b).μ ((tjU (11:Nat) (aA r.toNat) b).next (j,c,d))<(tjU (11:Nat) (aA r.toNat) b).μ (j,c,d)/\(tjU (11:Nat) (aA r.toNat) b).F ((tjU (11:Nat) (aA r.toNat) b).next (j,c,d))=(tjU (11:Nat) (aA r.toNat) b).F (j,c,d))
theorem amK (p q:Bool) (a b:List Int) (i x:Int) (R:List Int) (s:List Int) (r n:Int) (j c:Int) (d:List Int):dQ (tiS p q a b i x R (some s) (some (r,n))) ((tjU 11 (aA r.toNat) b).way ((j,c,d))) ((run cL2 300).code lQ tkB (aJ (tiS p q a b i x R (some s) (some (r,n))) ((tjU 11 (aA r.toNat) b).S (j,c,d))))=some (.p (Xl p q a b i x R s r n j c d)):=by kernel_rfl
def Xm (lt:Bool) (p q:Bool) (a b:List Int) (i x:Int) (R:List Int) (s:List Int) (r n:Int):Prop:=((((((0:Int)<=0/\(0:Int)<=(↑(aA r.toNat).length:Int)/\(0:Int)+(↑(aA r.toNat).length:Int)<=(↑(aA r.toNat).length:Int))/\(↑b.length:Int)=(↑b.length:Int))/\Sm (List.take (↑(aA r.toNat).length:Int).toNat (List.drop (Int.toNat (0:Int)) (aA r.toNat)))/\Sm b)/\(!ja (List.take (↑(aA r.toNat).length:Int).toNat (List.drop (Int.toNat (0:Int)) (aA r.toNat))) b)=true)/\(((0:Int)<=i64.wrap ((↑b.length:Int) - (1:Int))/\i64.wrap ((↑b.length:Int) - (1:Int))<(↑(aA r.toNat).length:Int))/\((0:Int)+i64.wrap ((↑b.length:Int) - (1:Int))).toNat<(aA r.toNat).length/\((0:Int)<=i64.wrap ((↑b.length:Int) - (1:Int))/\i64.wrap ((↑b.length:Int) - (1:Int))<(↑b.length:Int))/\(i64.wrap ((↑b.length:Int) - (1:Int))).toNat<b.length/\(decide (i64.wrap (i64.wrap ((↑b.length:Int) - (1:Int))+1)<(↑(aA r.toNat).length:Int))=true->((0:Int)<=i64.wrap (i64.wrap ((↑b.length:Int) - (1:Int))+1)/\i64.wrap (i64.wrap ((↑b.length:Int) - (1:Int))+1)<(↑(aA r.toNat).length:Int))/\((0:Int)+i64.wrap (i64.wrap ((↑b.length:Int) - (1:Int))+1)).toNat<(aA r.toNat).length)/\(((i64.wrap ((↑b.length:Int) - (1:Int))).toNat<b.length/\b.getD (i64.wrap ((↑b.length:Int) - (1:Int))).toNat (0:Int)=b.getD (i64.wrap ((↑b.length:Int) - (1:Int))).toNat (0:Int))/\((0:Int)+i64.wrap ((↑b.length:Int) - (1:Int))).toNat<(aA r.toNat).length/\(aA r.toNat).getD ((0:Int)+i64.wrap ((↑b.length:Int) - (1:Int))).toNat (0:Int)=(aA r.toNat).getD ((0:Int)+i64.wrap ((↑b.length:Int) - (1:Int))).toNat (0:Int))/\i64.wrap (b.getD (i64.wrap ((↑b.length:Int) - (1:Int))).toNat (0:Int)+1)≠0)/\At (lQ) (lQ) (tkB) (tkB) (tiS p q a b i x R (some s) (some (r,n))) (tiS p q a b i x R (some s) (some (r,n)))/\((0:Int)<=0/\(0:Int)<=(↑(aA r.toNat).length:Int)/\(0:Int)+(↑(aA r.toNat).length:Int)<=(↑(cB (tkD R (some (r,n))).length (val (tkD R (some (r,n))) - tkK (tkD R (some (r,n))) b*val b)).length:Int))/\Dig (List.take (↑(aA r.toNat).length:Int).toNat (List.drop (Int.toNat (0:Int)) (cB (tkD R (some (r,n))).length (val (tkD R (some (r,n))) - tkK (tkD R (some (r,n))) b*val b))))/\Sm (List.take (↑(aA r.toNat).length:Int).toNat (List.drop (Int.toNat (0:Int)) (cB (tkD R (some (r,n))).length (val (tkD R (some (r,n))) - tkK (tkD R (some (r,n))) b*val b)))))/\(true=true->((((0:Int)=0/\(↑(aA (val (List.take (↑(aA r.toNat).length:Int).toNat (List.drop (Int.toNat (0:Int)) (cB (tkD R (some (r,n))).length (val (tkD R (some (r,n))) - tkK (tkD R (some (r,n))) b*val b))))).toNat).length:Int)=(↑(aA (r - tkK (aA r.toNat) b*val b).toNat).length:Int))/\i64.wrap (n+tkK (aA r.toNat) b)=i64.wrap (n+tkK (aA r.toNat) b))/\aA (val (List.take (↑(aA r.toNat).length:Int).toNat (List.drop (Int.toNat (0:Int)) (cB (tkD R (some (r,n))).length (val (tkD R (some (r,n))) - tkK (tkD R (some (r,n))) b*val b))))).toNat=aA (r - tkK (aA r.toNat) b*val b).toNat)/\(tkU true lt R b).I ((tkU true lt R b).next (some (r,n)))/\(tkU true lt R b).μ ((tkU true lt R b).next (some (r,n)))<(tkU true lt R b).μ (some (r,n))/\(tkU true lt R b).F ((tkU true lt R b).next (some (r,n)))=(tkU true lt R b).F (some (r,n)))
theorem amL (lt:Bool) (p q:Bool) (a b:List Int) (i x:Int) (R:List Int) (s:List Int) (r n:Int):dQ (tkS p q a b i x R (some s)) ((tkU true lt R b).way ((some (r,n)))) ((run (cTi p q a b i x R (some s) (some (r,n))) 300).code lQ tkA (aJ (tkS p q a b i x R (some s)) ((tkU true lt R b).S (some (r,n)))))=some (.p (Xm lt p q a b i x R s r n)):=by kernel_rfl
def Xn (lt:Bool) (p q:Bool) (a b:List Int) (i x:Int) (R:List Int) (s:List Int) (r n:Int):Prop:=(((((0:Int)<=0/\(0:Int)<=(↑(aA r.toNat).length:Int)/\(0:Int)+(↑(aA r.toNat).length:Int)<=(↑(aA r.toNat).length:Int))/\(↑b.length:Int)=(↑b.length:Int))/\Sm (List.take (↑(aA r.toNat).length:Int).toNat (List.drop (Int.toNat (0:Int)) (aA r.toNat)))/\Sm b)/\(!ja (List.take (↑(aA r.toNat).length:Int).toNat (List.drop (Int.toNat (0:Int)) (aA r.toNat))) b)=false)/\(true=true->((((0:Int)=0/\(↑(aA r.toNat).length:Int)=(↑(aA r.toNat).length:Int))/\n=n)/\aA r.toNat=aA r.toNat)/\(tkU true lt R b).F (some (r,n))=(Ex.exit (0:Nat),tkP true (some (r,n))))
theorem amM (lt:Bool) (p q:Bool) (a b:List Int) (i x:Int) (R:List Int) (s:List Int) (r n:Int):dQ (tkS p q a b i x R (some s)) ((tkU true lt R b).way ((some (r,n)))) ((run cTe 300).code lQ tkA (aJ (tkS p q a b i x R (some s)) ((tkU true lt R b).S (some (r,n)))))=some (.p (Xn lt p q a b i x R s r n)):=by kernel_rfl
def ab7 (lt:Bool) (p q:Bool) (a b:List Int) (i x:Int) (R:List Int) (s:List Int):Prop:=(0:Int)=0
theorem apw (lt:Bool) (p q:Bool) (a b:List Int) (i x:Int) (R:List Int) (s:List Int):fit (tkS p q a b i x R (some s)) (tkS p q a b i x R (some s)) (aJ (tkS p q a b i x R (some s)) ((tkU true lt R b).S none)) ([])=some (.p (ab7 lt p q a b i x R s)):=by kernel_rfl
def aiF (id:Nat) (D b:List Int) (j c:Int) (d:List Int):Prop:=(decide (j<(↑D.length:Int))=true->(((0:Int)<=j/\j<(↑D.length:Int))/\((0:Int)+j).toNat<d.length/\(decide (j<(↑b.length:Int))=true->((0:Int)<=j/\j<(↑b.length:Int))/\j.toNat<b.length)/\((0:Int)+j).toNat<d.length/\d.getD ((0:Int)+j).toNat (0:Int)=d.getD ((0:Int)+j).toNat (0:Int))/\((0:Int)<=j/\j<(↑D.length:Int))/\((0:Int)+j).toNat<d.length)/\((!decide (j<(↑D.length:Int)))=true->d=d/\(tjU id D b).F (j,c,d)=(Ex.exit (2:Nat),tjF id d))/\(decide (j<(↑D.length:Int))=true->(((tjC (qH b (tkK D b) j c d))=tjC (qH b (tkK D b) j c d)/\i64.wrap (j+1)=i64.wrap (j+1))/\d.set ((0:Int)+j).toNat (tjR (qH b (tkK D b) j c d))=d.set ((0:Int)+j).toNat (tjR (qH b (tkK D b) j c d)))/\(tjU id D b).I ((tjU id D b).next (j,c,d))/\(tjU id D b).μ ((tjU id D b).next (j,c,d))<(tjU id D b).μ (j,c,d)/\(tjU id D b).F ((tjU id D b).next (j,c,d))=(tjU id D b).F (j,c,d))
def ab8 (D b:List Int):Prop:=(((((0:Int)<=0/\(0:Int)<=(↑D.length:Int)/\(0:Int)+(↑D.length:Int)<=(↑D.length:Int))/\(↑b.length:Int)=(↑b.length:Int))/\Sm (List.take (↑D.length:Int).toNat (List.drop (Int.toNat (0:Int)) D))/\Sm b)/\(!ja (List.take (↑D.length:Int).toNat (List.drop (Int.toNat (0:Int)) D)) b)=true)/\(((0:Int)<=i64.wrap ((↑b.length:Int) - (1:Int))/\i64.wrap ((↑b.length:Int) - (1:Int))<(↑D.length:Int))/\((0:Int)+i64.wrap ((↑b.length:Int) - (1:Int))).toNat<D.length/\((0:Int)<=i64.wrap ((↑b.length:Int) - (1:Int))/\i64.wrap ((↑b.length:Int) - (1:Int))<(↑b.length:Int))/\(i64.wrap ((↑b.length:Int) - (1:Int))).toNat<b.length/\(decide (i64.wrap (i64.wrap ((↑b.length:Int) - (1:Int))+1)<(↑D.length:Int))=true->((0:Int)<=i64.wrap (i64.wrap ((↑b.length:Int) - (1:Int))+1)/\i64.wrap (i64.wrap ((↑b.length:Int) - (1:Int))+1)<(↑D.length:Int))/\((0:Int)+i64.wrap (i64.wrap ((↑b.length:Int) - (1:Int))+1)).toNat<D.length)/\(((i64.wrap ((↑b.length:Int) - (1:Int))).toNat<b.length/\b.getD (i64.wrap ((↑b.length:Int) - (1:Int))).toNat (0:Int)=b.getD (i64.wrap ((↑b.length:Int) - (1:Int))).toNat (0:Int))/\((0:Int)+i64.wrap ((↑b.length:Int) - (1:Int))).toNat<D.length/\D.getD ((0:Int)+i64.wrap ((↑b.length:Int) - (1:Int))).toNat (0:Int)=D.getD ((0:Int)+i64.wrap ((↑b.length:Int) - (1:Int))).toNat (0:Int))/\i64.wrap (b.getD (i64.wrap ((↑b.length:Int) - (1:Int))).toNat (0:Int)+1)≠0)
def ab9 (D b:List Int):Prop:=((0:Int)<=0/\(0:Int)<=(↑D.length:Int)/\(0:Int)+(↑D.length:Int)<=(↑(cB (D).length (val (D) - tkK (D) b*val b)).length:Int))/\Dig (List.take (↑D.length:Int).toNat (List.drop (Int.toNat (0:Int)) (cB (D).length (val (D) - tkK (D) b*val b))))/\Sm (List.take (↑D.length:Int).toNat (List.drop (Int.toNat (0:Int)) (cB (D).length (val (D) - tkK (D) b*val b))))
def aca (D b:List Int):Prop:=((((0:Int)<=0/\(0:Int)<=(↑D.length:Int)/\(0:Int)+(↑D.length:Int)<=(↑D.length:Int))/\(↑b.length:Int)=(↑b.length:Int))/\Sm (List.take (↑D.length:Int).toNat (List.drop (Int.toNat (0:Int)) D))/\Sm b)/\(!ja (List.take (↑D.length:Int).toNat (List.drop (Int.toNat (0:Int)) D)) b)=false
structure TkD (D b:List Int):Prop where
 hD:Dig D
 tD:Top D
 sD:D.length<=500000
 hb:Dig b
 tb:Top b
 sb:b.length<=500000
 ne:b≠[]
 lt:val D<1000000000*val b
theorem TkD.spec {D b:List Int} (h:TkD D b) (E:val b<=val D):1<=tkK D b/\tkK D b<1000000000/\tkK D b*val b<=val D/\b.length<=D.length:=aaa h.hD h.tD h.hb h.tb h.sb h.ne E h.lt
theorem TkD.pos {D b:List Int} (h:TkD D b):0<val b:=by have:=aO h.hb;have:=EQ h.hb h.tb h.ne;omega
theorem ag9 (b:List Int) (k j c:Int) (d:List Int):qH b k j c d=tjX b k j c d:=by unfold qH tjX;rw [show (0+j)=j by omega]
theorem aha {id:Nat} {D b:List Int} (h:TkD D b) (f:val b<=val D) {j c:Int} {d:List Int} (g:tjI D b (tkK D b) j c d):aiF id D b j c d:=by
 obtain ⟨k1,k2,l,k4⟩:=h.spec f;have m:=h.pos;obtain ⟨h1,h2,h3,n,o,p,q⟩:=_root_.id g;have sD:=h.sD;have i:(0+j).toNat=j.toNat:=by omega
 refine ⟨fun a=>?_,fun a=>⟨rfl,?_⟩,fun a=>?_⟩
 .have a:=dt.1 a;rw [i];refine ⟨⟨⟨h3,a⟩,by omega,fun hb=>?_,by omega,rfl⟩,⟨h3,a⟩,by omega⟩;have hb:=dt.1 hb;exact ⟨⟨h3,hb⟩,by omega⟩
 .have a:=ndt.1 a;have:j=D.length:=by omega
  subst this;show (Ex.exit 2,tjF id (cB D.length (val D - tkK D b*val b)))=_;rw [<- ae6 h.hD k4 l (aV (by omega) (by omega)) g]
 .have a:=dt.1 a;have st:=aab h.hb ⟨by omega,k2⟩ g a;have k:i64.wrap (j+1)=j+1:=iw (by omega) (by omega);refine ⟨⟨⟨rfl,rfl⟩,rfl⟩,?_,?_,rfl⟩
  .show tjI D b (tkK D b) (i64.wrap (j+1)) (tjC (qH b (tkK D b) j c d)) (d.set (0+j).toNat (tjR (qH b (tkK D b) j c d)));rw [i,k,ag9];exact st
  .show (D.length - i64.wrap (j+1)).toNat<(D.length - j).toNat;rw [k];omega
theorem ahb (p q:Bool) (a:List Int) {b:List Int} (i x:Int) {R:List Int} (o:Option (List Int)) (y:Option (Int×Int)) (h:TkD (tkD R y) b) (g:val b<=val (tkD R y)):
  CodeOk cTh lQ (.loop tkB) (tiS p q a b i x R o y) ⟨.tt,[⟨.tt,.exit 2,aJ (tiS p q a b i x R o y) (tjF (apu o.isSome y) (cB (tkD R y).length (val (tkD R y) - tkK (tkD R y) b*val b)))⟩]⟩:=by
 have f:∀ (id:Nat),(qC (fit (tiS p q a b i x R o y) (tiS p q a b i x R o y) (aJ (tiS p q a b i x R o y) ((tjU id (tkD R y) b).S (0,0,tkD R y))) []))->kz (tiS p q a b i x R o y).hp ((tjU id (tkD R y) b).S (0,0,tkD R y)).old=true ->
   (∀ j c d,dQ (tiS p q a b i x R o y) ((tjU id (tkD R y) b).way (j,c,d)) ((run cL2 300).code lQ tkB (aJ (tiS p q a b i x R o y) ((tjU id (tkD R y) b).S (j,c,d))))=some (.p (aiF id (tkD R y) b j c d))) ->
   CodeOk cTh lQ (.loop tkB) (tiS p q a b i x R o y) ⟨.tt,[⟨.tt,.exit 2,aJ (tiS p q a b i x R o y) (tjF id (cB (tkD R y).length (val (tkD R y) - tkK (tkD R y) b*val b)))⟩]⟩:=by
  intro id h1 h2 h3;exact jm (tjU id (tkD R y) b) (y0:=(0,0,tkD R y)) (Wv h.hD) h1 h2 (fun z k=>by
   obtain ⟨j,c,d⟩:=z;exact ⟨cL2,300,mM,rfl,rfl,_,h3 j c d,aha h g k⟩) rfl
 cases o with
 | none=>cases y with
  | none=>exact f 8 ⟨_,amx p q a b i x R,⟨⟨rfl,rfl⟩,rfl⟩⟩ (by kernel_rfl) (fun j c d=>amy p q a b i x R j c d)
  | some y=>exact f 9 ⟨_,amB p q a b i x R y.1 y.2,⟨⟨rfl,rfl⟩,rfl⟩⟩ (by kernel_rfl) (fun j c d=>amC p q a b i x R y.1 y.2 j c d)
 | some s=>cases y with
  | none=>exact f 10 ⟨_,amF p q a b i x R s,⟨⟨rfl,rfl⟩,rfl⟩⟩ (by kernel_rfl) (fun j c d=>amG p q a b i x R s j c d)
  | some y=>exact f 11 ⟨_,amJ p q a b i x R s y.1 y.2,⟨⟨rfl,rfl⟩,rfl⟩⟩ (by kernel_rfl) (fun j c d=>amK p q a b i x R s y.1 y.2 j c d)
theorem Nl (p q:Bool) (a:List Int) {b:List Int} (i x:Int) {R:List Int} (o:Option (List Int)) (y:Option (Int×Int)) (h:TkD (tkD R y) b) (c:val b<=val (tkD R y)):CtxOk (cTi p q a b i x R o y):=
 bE ab5 (ahb p q a i x o y h c) (bJ ab5)
theorem apx {D b:List Int} (h:TkD D b) (a:val b<=val D):ja D b=false:=by
 cases e:ja D b with
 | false=>rfl
 | true=>have:=(pO h.hD h.hb h.tD h.tb).1 e;omega
theorem qI {D b:List Int} (h:TkD D b) (a:val b<=val D):ab8 D b:=by
 obtain ⟨k1,k2,i,k4⟩:=h.spec a;have sD:=h.sD;have sb:=h.sb;have hp:=eU.2 h.ne;have d:i64.wrap ((b.length:Int) - 1)=b.length - 1:=iw (by omega) (by omega);have f:i64.wrap ((b.length:Int) - 1+1)=b.length:=by rw [iw (by omega) (by omega)];omega
 have g:=h.hb.get (b.length - 1);have e3:i64.wrap (b.getD (b.length - 1) 0+1)=b.getD (b.length - 1) 0+1:=iw (by omega) (by omega);unfold ab8;rw [td,d,f,show (0+((b.length:Int) - 1)).toNat=b.length - 1 by omega,show ((b.length:Int) - 1).toNat=b.length - 1 by omega,show (0+(b.length:Int)).toNat=b.length by omega,e3];refine ⟨⟨⟨⟨xu,rfl⟩,h.sD,h.sb⟩,by rw [apx h a];rfl⟩,⟨by omega,by omega⟩,by omega,⟨by omega,by omega⟩,by omega,fun c=>?_,⟨⟨by omega,rfl⟩,by omega,rfl⟩,by omega⟩;have:=dt.1 c;exact ⟨⟨by omega,this⟩,by omega⟩
theorem acb {D b:List Int} (h:TkD D b) (a:val b<=val D):List.take (D.length:Int).toNat (List.drop (Int.toNat 0) (cB D.length (val D - tkK D b*val b)))=cB D.length (val D - tkK D b*val b)/\val (cB D.length (val D - tkK D b*val b))=val D - tkK D b*val b:=by obtain ⟨k1,k2,c,k4⟩:=h.spec a;have d:=h.pos;have:=eF h.hD;have m:=aV (show 0<=tkK D b by omega) (show 0<=val b by omega);have e:=td (cB D.length (val D - tkK D b*val b));rw [eD] at e;exact ⟨e,kG (by omega) (by omega)⟩
theorem CY {D b:List Int} (h:TkD D b) (a:val b<=val D):ab9 D b:=by obtain ⟨c,d⟩:=acb h a;have sD:=h.sD;unfold ab9;rw [c];exact ⟨by rw [eD];omega,j3 _ _,by show _<=500000;rw [eD];exact sD⟩
theorem CZ {D b:List Int} (h:TkD D b) (a:val D<val b):aca D b:=by unfold aca;rw [td];exact ⟨⟨⟨xu,rfl⟩,h.sD,h.sb⟩,by rw [(pO h.hD h.hb h.tD h.tb).2 a];rfl⟩
theorem SX {R b:List Int} (h:TkD R b):∀ {y:Option (Int×Int)} {w lt:Bool},(tkU w lt R b).I y->TkD (tkD R y) b
 | none,_,_,_=>h
 | some (r,n),_,_,a=>by
  obtain ⟨h1,h2,h3,d⟩:=(show 0<=r/\0<=n/\r+n*val b=val R/\_ from a);have f:=h.pos;have m:=aV h2 (show 0<=val b by omega);have c:=eF h.hD;have sD:=h.sD;have lt:=h.lt;have e:(r.toNat:Int)=r:=by omega
  refine ⟨bU _,mD _,?_,h.hb,h.tb,h.sb,h.ne,?_⟩
  .have:=lL (n:=r.toNat) (k:=R.length) (by omega);show (aA r.toNat).length<=500000;omega
  .show val (aA r.toNat)<_;rw [jZ];omega
theorem Nn {R b:List Int} {r n:Int} {w lt:Bool} (a:(tkU w lt R b).I (some (r,n))):val (aA r.toNat)=r:=by obtain ⟨h1,_⟩:=(show 0<=r/\0<=n/\r+n*val b=val R/\_ from a);rw [jZ];omega
theorem Ah {D b:List Int} (h:TkD D b) (a:val b<=val D):aA (val (List.take (D.length:Int).toNat (List.drop (Int.toNat 0) (cB D.length (val D - tkK D b*val b))))).toNat=aA (val D - tkK D b*val b).toNat:=by obtain ⟨c,d⟩:=acb h a;rw [c,d]
theorem ahc (p q:Bool) (a:List Int) {b:List Int} (i x:Int) {R:List Int} (o:Option (List Int)) (h:TkD R b) {lt:Bool} (v:lt=decide (val R<val b)):
  CodeOk cL2 lQ (.loop tkA) (tkS p q a b i x R o) ⟨.tt,[⟨.tt,.exit 0,aJ (tkS p q a b i x R o) (tkP o.isSome (tkE R b lt))⟩]⟩:=by
 have H:=h.pos;have z:∀ w,val b<=val R->(tkU w lt R b).I (some (val R - tkK R b*val b,i64.wrap (0+tkK R b)))/\(val R - tkK R b*val b).toNat<(val R).toNat+1:=by
  intro w c;obtain ⟨k1,k2,A,k4⟩:=h.spec c;have e:i64.wrap (0+tkK R b)=tkK R b:=by rw [iw (by omega) (by omega)];omega
  have m:=aV (show 0<=tkK R b by omega) (show 0<=val b by omega);refine ⟨?_,by omega⟩;show 0<=val R - tkK R b*val b/\0<=i64.wrap (0+tkK R b)/\val R - tkK R b*val b+i64.wrap (0+tkK R b)*val b=val R/\lt=false;rw [e];exact ⟨by omega,by omega,by omega,by rw [v];exact aG (by omega)⟩
 have D:∀ w r n,(tkU w lt R b).I (some (r,n))->val b<=r->(tkU w lt R b).I (some (r - tkK (aA r.toNat) b*val b,i64.wrap (n+tkK (aA r.toNat) b)))/\(r - tkK (aA r.toNat) b*val b).toNat<r.toNat:=by
  intro w r n l c;have hD:TkD (aA r.toNat) b:=SX h l;have ev:=Nn l;obtain ⟨k1,k2,A,k4⟩:=hD.spec (by rw [ev];exact c);obtain ⟨h1,h2,h3,u⟩:=(show 0<=r/\0<=n/\r+n*val b=val R/\lt=false from l);rw [ev] at A;have j:=h.lt;have J:1*val b<=tkK (aA r.toNat) b*val b:=bG k1 (by omega);have F:(n+tkK (aA r.toNat) b)*val b<1000000000*val b:=by rw [iQ];omega
  have K:=Int.lt_of_mul_lt_mul_right F (by omega);have e:i64.wrap (n+tkK (aA r.toNat) b)=n+tkK (aA r.toNat) b:=iw (by omega) (by omega);refine ⟨?_,by omega⟩;show 0<=r - tkK (aA r.toNat) b*val b/\0<=i64.wrap (n+tkK (aA r.toNat) b)/\r - tkK (aA r.toNat) b*val b+i64.wrap (n+tkK (aA r.toNat) b)*val b=val R/\lt=false;rw [e,iQ];exact ⟨by omega,by omega,by omega,u⟩
 have E:val R<val b->tkE R b lt=none:=by intro h;rw [v,aI h];rfl
 have q4:∀ w r n,(tkU w lt R b).I (some (r,n))->r<val b->tkE R b lt=some (r,n):=by intro w r n l j;obtain ⟨h1,h2,h3,u⟩:=(show 0<=r/\0<=n/\r+n*val b=val R/\lt=false from l);rw [u];show some (val R % val b,val R / val b)=some (r,n);rw [<- h3,Dl,mV h1 j,Dr _ _ (by omega),oH h1 j];simp
 cases o with
 | none=>
  refine jm (tkU false lt R b) (y0:=none) trivial ⟨_,apv lt p q a b i x R,rfl⟩ (by kernel_rfl) (fun y g=>?_) rfl;have hD:=SX h g
  cases y with
  | none=>
   by_cases c:val b<=val R
   .obtain ⟨r1,k⟩:=z false c;exact ⟨cTi p q a b i x R none none,300,Nl p q a i x none none h c,rfl,rfl,_,amz lt p q a b i x R,⟨(qI h c).1,(qI h c).2,⟨rfl,rfl,rfl⟩,CY h c⟩,fun _=>⟨⟨⟨⟨rfl,by rw [show tkD R none=R from rfl,Ah h c]⟩,rfl⟩,Ah h c⟩,r1,k,rfl⟩⟩
   .exact ⟨cTe,300,Nk,rfl,rfl,_,amA lt p q a b i x R,CZ h (by omega),fun _=>⟨rfl,by show (Ex.exit 0,tkP false (tkE R b lt))=_;rw [E (by omega)]⟩⟩
  | some y=>
   obtain ⟨r,n⟩:=y;have ev:=Nn g;have hD:TkD (aA r.toNat) b:=hD;by_cases c:val b<=r
   .obtain ⟨r1,k⟩:=D false r n g c;have d:val b<=val (aA r.toNat):=by rw [ev];exact c
    have t:=Ah hD d;rw [ev] at t;have f:aA (val (List.take ((aA r.toNat).length:Int).toNat (List.drop (Int.toNat 0) (cB (tkD R (some (r,n))).length (val (tkD R (some (r,n))) - tkK (tkD R (some (r,n))) b*val b))))).toNat=aA (r - tkK (aA r.toNat) b*val b).toNat:=by rw [show tkD R (some (r,n))=aA r.toNat from rfl,ev];exact t
    exact ⟨cTi p q a b i x R none (some (r,n)),300,Nl p q a i x none (some (r,n)) hD d,rfl,rfl,_,amD lt p q a b i x R r n,⟨(qI hD d).1,(qI hD d).2,⟨rfl,rfl,rfl⟩,CY hD d⟩,fun _=>⟨⟨⟨⟨rfl,by rw [f]⟩,rfl⟩,f⟩,r1,k,rfl⟩⟩
   .exact ⟨cTe,300,Nk,rfl,rfl,_,amE lt p q a b i x R r n,CZ hD (by rw [ev];omega),fun _=>⟨⟨⟨⟨rfl,rfl⟩,rfl⟩,rfl⟩,by show (Ex.exit 0,tkP false (tkE R b lt))=_;rw [q4 false r n g (by omega)]⟩⟩
 | some s=>
  refine jm (tkU true lt R b) (y0:=none) trivial ⟨_,apw lt p q a b i x R s,rfl⟩ (by kernel_rfl) (fun y g=>?_) rfl;have hD:=SX h g
  cases y with
  | none=>
   by_cases c:val b<=val R
   .obtain ⟨r1,k⟩:=z true c;exact ⟨cTi p q a b i x R (some s) none,300,Nl p q a i x (some s) none h c,rfl,rfl,_,amH lt p q a b i x R s,⟨(qI h c).1,(qI h c).2,⟨rfl,rfl,rfl⟩,CY h c⟩,fun _=>⟨⟨⟨⟨rfl,by rw [show tkD R none=R from rfl,Ah h c]⟩,rfl⟩,Ah h c⟩,r1,k,rfl⟩⟩
   .exact ⟨cTe,300,Nk,rfl,rfl,_,amI lt p q a b i x R s,CZ h (by omega),fun _=>⟨rfl,by show (Ex.exit 0,tkP true (tkE R b lt))=_;rw [E (by omega)]⟩⟩
  | some y=>
   obtain ⟨r,n⟩:=y;have ev:=Nn g;have hD:TkD (aA r.toNat) b:=hD;by_cases c:val b<=r
   .obtain ⟨r1,k⟩:=D true r n g c;have d:val b<=val (aA r.toNat):=by rw [ev];exact c
    have t:=Ah hD d;rw [ev] at t;have f:aA (val (List.take ((aA r.toNat).length:Int).toNat (List.drop (Int.toNat 0) (cB (tkD R (some (r,n))).length (val (tkD R (some (r,n))) - tkK (tkD R (some (r,n))) b*val b))))).toNat=aA (r - tkK (aA r.toNat) b*val b).toNat:=by rw [show tkD R (some (r,n))=aA r.toNat from rfl,ev];exact t
    exact ⟨cTi p q a b i x R (some s) (some (r,n)),300,Nl p q a i x (some s) (some (r,n)) hD d,rfl,rfl,_,amL lt p q a b i x R s r n,⟨(qI hD d).1,(qI hD d).2,⟨rfl,rfl,rfl⟩,CY hD d⟩,fun _=>⟨⟨⟨⟨rfl,by rw [f]⟩,rfl⟩,f⟩,r1,k,rfl⟩⟩
   .exact ⟨cTe,300,Nk,rfl,rfl,_,amM lt p q a b i x R s r n,CZ hD (by rw [ev];omega),fun _=>⟨⟨⟨⟨rfl,rfl⟩,rfl⟩,rfl⟩,by show (Ex.exit 0,tkP true (tkE R b lt))=_;rw [q4 true r n g (by omega)]⟩⟩
def paO (a b:List Int):Option Int->Option (List Int)
 | none=>none
 | some i=>some (paR a b i)
def paI (a:List Int):Option Int->Int
 | none=>a.length - 1
 | some i=>i
def paX (a:List Int) (y:Option Int):Int:=a.getD (paI a y).toNat 0
def paT (a b:List Int) (y:Option Int):List Int:=tkR (paX a y) (paO a b y)
def paN (a:List Int):Option Int->Int
 | none=>i64.wrap ((a.length:Int) - 1 - 1)
 | some i=>i64.wrap (i - 1)
def paE (a b:List Int):Patch:=⟨(7,.islice true 7 0 (paR a b (-1)).length) :: (8,.any false) :: (9,.any false) :: bS 18 24,[(6,.ints .i64 (paQ a b (-1)))],[.ints .i64 (paR a b (-1))]⟩
def paU (a b:List Int):SumL (Option Int×Bool):=
 {
  S:=fun (y,_)=>paP a b y
  I:=fun (y,l)=>l=decide (val (paT a b y)<val b)/\-1<=paI a y/\paI a y<a.length/\(y=none->0<=paI a y)
  μ:=fun (y,_)=>(paI a y+1).toNat
  F:=fun _=>(.exit 0,paE a b)
  next:=fun (y,_)=>(some (paN a y),decide (val (paT a b (some (paN a y)))<val b))
  ids:=fun (y,l)=>match y with
   | none=>(match l with|true=>[8]|false=>[9])
   | some _=>(match l with|true=>[10]|false=>[11])
  X:=fun (y,_) _=>match y with
   | none=>some (⟨(7,.any false) :: (8,.any false) :: (9,.any false) :: bS 18 24,[(6,.dead)],[]⟩,[])
   | some i=>some (⟨(7,.islice true 7 0 (paR a b i).length) :: (8,.any false) :: (9,.any false) :: bS 18 24,[(6,.ints .i64 (paQ a b i))],[.ints .i64 (paR a b i)]⟩,[7]) }
noncomputable def cHt (t:Nat):Ctx:=eZ cL2 (mi [(t,.bool false true)])
theorem acd (t:Nat):CtxOk (cHt t):=bW mM _
noncomputable def cPa (p q:Bool) (a b:List Int) (y:Option Int) (l:Bool):Ctx:=bN (cHt 19) [dK 100 44 lQ tkA (tkS p q a b (paI a y) (paX a y) (paT a b y) (paO a b y)) (.exit 0) (tkP (paO a b y).isSome (tkE (paT a b y) b l))]
noncomputable def amN (p q:Bool) (a b:List Int):Ctx:=bN cL2 [dK 81 (paS p q a b).hp.clock Nj paA (paS p q a b) (.exit 0) (paE a b)]
def QP (p q:Bool) (a b:List Int):Prop:=i64.wrap ((↑a.length:Int) - (1:Int))=(↑a.length:Int) - (1:Int)/\List.replicate (↑a.length:Int).toNat (0:Int)=paQ a b ((↑a.length:Int) - (1:Int))
theorem ace (p q:Bool) (a b:List Int):fit (paS p q a b) (paS p q a b) (aJ (paS p q a b) (paP a b none)) ([])=some (.p (QP p q a b)):=by kernel_rfl
def Xo (p q:Bool) (a b:List Int):Prop:=(decide ((↑a.length:Int) - (1:Int)>=0)=true/\(((0:Int)<=(↑a.length:Int) - (1:Int)/\(↑a.length:Int) - (1:Int)<(↑a.length:Int))/\((↑a.length:Int) - (1:Int)).toNat<a.length)/\(Dig [a.getD ((↑a.length:Int) - (1:Int)).toNat (0:Int)]/\Sm [a.getD ((↑a.length:Int) - (1:Int)).toNat (0:Int)])/\(↑b.length:Int)=(↑b.length:Int)/\At (lQ) (lQ) (tkA) (tkA) (tkS p q a b (paI a none) (paX a none) (paT a b none) (paO a b none)) (tkS p q a b (paI a none) (paX a none) (paT a b none) (paO a b none))/\((0:Int)<=(↑a.length:Int) - (1:Int)/\(↑a.length:Int) - (1:Int)<(↑a.length:Int))/\((0:Int)+((↑a.length:Int) - (1:Int))).toNat<(paQ a b (paI a none)).length)/\(true=true->((((0:Int)=0/\(↑(paT a b none).length:Int)=(↑(paR a b (paN a none)).length:Int))/\i64.wrap ((↑a.length:Int) - (1:Int) - (1:Int))=paN a none)/\(paQ a b (paI a none)).set ((0:Int)+((↑a.length:Int) - (1:Int))).toNat (0:Int)=paQ a b (paN a none)/\paT a b none=paR a b (paN a none))/\(paU a b).I ((paU a b).next (none,true))/\(paU a b).μ ((paU a b).next (none,true))<(paU a b).μ (none,true)/\(paU a b).F ((paU a b).next (none,true))=(paU a b).F (none,true))
theorem amO (p q:Bool) (a b:List Int):dQ (paS p q a b) ((paU a b).way ((none,true))) ((run (cPa p q a b none true) 300).code Nj paA (aJ (paS p q a b) ((paU a b).S (none,true))))=some (.p (Xo p q a b)):=by kernel_rfl
def Xp (p q:Bool) (a b:List Int):Prop:=(decide ((↑a.length:Int) - (1:Int)>=0)=true/\(((0:Int)<=(↑a.length:Int) - (1:Int)/\(↑a.length:Int) - (1:Int)<(↑a.length:Int))/\((↑a.length:Int) - (1:Int)).toNat<a.length)/\(Dig [a.getD ((↑a.length:Int) - (1:Int)).toNat (0:Int)]/\Sm [a.getD ((↑a.length:Int) - (1:Int)).toNat (0:Int)])/\(↑b.length:Int)=(↑b.length:Int)/\At (lQ) (lQ) (tkA) (tkA) (tkS p q a b (paI a none) (paX a none) (paT a b none) (paO a b none)) (tkS p q a b (paI a none) (paX a none) (paT a b none) (paO a b none))/\((0:Int)<=(↑a.length:Int) - (1:Int)/\(↑a.length:Int) - (1:Int)<(↑a.length:Int))/\((0:Int)+((↑a.length:Int) - (1:Int))).toNat<(paQ a b (paI a none)).length)/\(true=true->((((0:Int)=0/\(↑(aA (val (paT a b none) % val b).toNat).length:Int)=(↑(paR a b (paN a none)).length:Int))/\i64.wrap ((↑a.length:Int) - (1:Int) - (1:Int))=paN a none)/\(paQ a b (paI a none)).set ((0:Int)+((↑a.length:Int) - (1:Int))).toNat (val (paT a b none) / val b)=paQ a b (paN a none)/\aA (val (paT a b none) % val b).toNat=paR a b (paN a none))/\(paU a b).I ((paU a b).next (none,false))/\(paU a b).μ ((paU a b).next (none,false))<(paU a b).μ (none,false)/\(paU a b).F ((paU a b).next (none,false))=(paU a b).F (none,false))
theorem amP (p q:Bool) (a b:List Int):dQ (paS p q a b) ((paU a b).way ((none,false))) ((run (cPa p q a b none false) 300).code Nj paA (aJ (paS p q a b) ((paU a b).S (none,false))))=some (.p (Xp p q a b)):=by kernel_rfl
def Xq (p q:Bool) (a b:List Int) (i:Int):Prop:=(decide (i>=0)=true/\(((0:Int)<=i/\i<(↑a.length:Int))/\i.toNat<a.length/\((0:Int)<=0/\(0:Int)<=(↑(paR a b i).length:Int)/\(0:Int)+(↑(paR a b i).length:Int)<=(↑(paR a b i).length:Int))/\(↑(1:Nat):Int)+(↑(paR a b i).length:Int)<=1048576)/\(((0:Int)<=0/\(0:Int)<=(↑(1:Nat):Int)+(↑(paR a b i).length:Int)/\(0:Int)+((↑(1:Nat):Int)+(↑(paR a b i).length:Int))<=(↑([a.getD i.toNat (0:Int)]++List.take (↑(paR a b i).length:Int).toNat (List.drop (Int.toNat (0:Int)) (paR a b i))).length:Int))/\Dig (List.take ((↑(1:Nat):Int)+(↑(paR a b i).length:Int)).toNat (List.drop (Int.toNat (0:Int)) ([a.getD i.toNat (0:Int)]++List.take (↑(paR a b i).length:Int).toNat (List.drop (Int.toNat (0:Int)) (paR a b i)))))/\Sm (List.take ((↑(1:Nat):Int)+(↑(paR a b i).length:Int)).toNat (List.drop (Int.toNat (0:Int)) ([a.getD i.toNat (0:Int)]++List.take (↑(paR a b i).length:Int).toNat (List.drop (Int.toNat (0:Int)) (paR a b i))))))/\(↑b.length:Int)=(↑b.length:Int)/\At (lQ) (lQ) (tkA) (tkA) (tkS p q a b (paI a (some i)) (paX a (some i)) (paT a b (some i)) (paO a b (some i))) (tkS p q a b (paI a (some i)) (paX a (some i)) (paT a b (some i)) (paO a b (some i)))/\((0:Int)<=i/\i<(↑a.length:Int))/\((0:Int)+i).toNat<(paQ a b (paI a (some i))).length)/\(true=true->((((0:Int)=0/\(↑(paT a b (some i)).length:Int)=(↑(paR a b (paN a (some i))).length:Int))/\i64.wrap (i - (1:Int))=paN a (some i))/\(paQ a b (paI a (some i))).set ((0:Int)+i).toNat (0:Int)=paQ a b (paN a (some i))/\paT a b (some i)=paR a b (paN a (some i)))/\(paU a b).I ((paU a b).next (some i,true))/\(paU a b).μ ((paU a b).next (some i,true))<(paU a b).μ (some i,true)/\(paU a b).F ((paU a b).next (some i,true))=(paU a b).F (some i,true))
theorem amQ (p q:Bool) (a b:List Int) (i:Int):dQ (paS p q a b) ((paU a b).way (((some i),true))) ((run (cPa p q a b (some i) true) 300).code Nj paA (aJ (paS p q a b) ((paU a b).S ((some i),true))))=some (.p (Xq p q a b i)):=by kernel_rfl
def Xr (p q:Bool) (a b:List Int) (i:Int):Prop:=(decide (i>=0)=true/\(((0:Int)<=i/\i<(↑a.length:Int))/\i.toNat<a.length/\((0:Int)<=0/\(0:Int)<=(↑(paR a b i).length:Int)/\(0:Int)+(↑(paR a b i).length:Int)<=(↑(paR a b i).length:Int))/\(↑(1:Nat):Int)+(↑(paR a b i).length:Int)<=1048576)/\(((0:Int)<=0/\(0:Int)<=(↑(1:Nat):Int)+(↑(paR a b i).length:Int)/\(0:Int)+((↑(1:Nat):Int)+(↑(paR a b i).length:Int))<=(↑([a.getD i.toNat (0:Int)]++List.take (↑(paR a b i).length:Int).toNat (List.drop (Int.toNat (0:Int)) (paR a b i))).length:Int))/\Dig (List.take ((↑(1:Nat):Int)+(↑(paR a b i).length:Int)).toNat (List.drop (Int.toNat (0:Int)) ([a.getD i.toNat (0:Int)]++List.take (↑(paR a b i).length:Int).toNat (List.drop (Int.toNat (0:Int)) (paR a b i)))))/\Sm (List.take ((↑(1:Nat):Int)+(↑(paR a b i).length:Int)).toNat (List.drop (Int.toNat (0:Int)) ([a.getD i.toNat (0:Int)]++List.take (↑(paR a b i).length:Int).toNat (List.drop (Int.toNat (0:Int)) (paR a b i))))))/\(↑b.length:Int)=(↑b.length:Int)/\At (lQ) (lQ) (tkA) (tkA) (tkS p q a b (paI a (some i)) (paX a (some i)) (paT a b (some i)) (paO a b (some i))) (tkS p q a b (paI a (some i)) (paX a (some i)) (paT a b (some i)) (paO a b (some i)))/\((0:Int)<=i/\i<(↑a.length:Int))/\((0:Int)+i).toNat<(paQ a b (paI a (some i))).length)/\(true=true->((((0:Int)=0/\(↑(aA (val (paT a b (some i)) % val b).toNat).length:Int)=(↑(paR a b (paN a (some i))).length:Int))/\i64.wrap (i - (1:Int))=paN a (some i))/\(paQ a b (paI a (some i))).set ((0:Int)+i).toNat (val (paT a b (some i)) / val b)=paQ a b (paN a (some i))/\aA (val (paT a b (some i)) % val b).toNat=paR a b (paN a (some i)))/\(paU a b).I ((paU a b).next (some i,false))/\(paU a b).μ ((paU a b).next (some i,false))<(paU a b).μ (some i,false)/\(paU a b).F ((paU a b).next (some i,false))=(paU a b).F (some i,false))
theorem amR (p q:Bool) (a b:List Int) (i:Int):dQ (paS p q a b) ((paU a b).way (((some i),false))) ((run (cPa p q a b (some i) false) 300).code Nj paA (aJ (paS p q a b) ((paU a b).S ((some i),false))))=some (.p (Xr p q a b i)):=by kernel_rfl
def ahd (p q:Bool) (a b:List Int) (i:Int) (l:Bool):Prop:=decide (i>=0)=false/\(true=true->(((0:Int)=0/\(↑(paR a b i).length:Int)=(↑(paR a b i).length:Int))/\paQ a b i=paQ a b i/\paR a b i=paR a b i)/\(paU a b).F (some i,l)=(Ex.exit (0:Nat),{ tm:=((7:Nat),AV.islice true (7:Nat) (0:Int) (↑(paR a b i).length:Int)) :: ((8:Nat),AV.any false) :: ((9:Nat),AV.any false) :: bS (18:Nat) (24:Nat),old:=[((6:Nat),ABody.ints i64 (paQ a b i))],new:=[ABody.ints i64 (paR a b i)] }))
theorem asC (p q:Bool) (a b:List Int) (i:Int) (l:Bool):dQ (paS p q a b) ((paU a b).way ((some i,l))) ((run (cHf 19) 300).code Nj paA (aJ (paS p q a b) ((paU a b).S (some i,l))))=some (.p (ahd p q a b i l)):=by kernel_rfl
def ahe (p q:Bool) (a b:List Int):Prop:=(((↑a.length:Int)=(↑a.length:Int)/\(0:Int)<=(↑a.length:Int)/\(↑a.length:Int)<=1048576)/\At (Nj) (Nj) (paA) (paA) (paS p q a b) (paS p q a b)/\(((0:Int)<=0/\(0:Int)<=(↑a.length:Int)/\(0:Int)+(↑a.length:Int)<=(↑(paQ a b (-1:Int)).length:Int))/\Dig (List.take (↑a.length:Int).toNat (List.drop (Int.toNat (0:Int)) (paQ a b (-1:Int))))/\Sm (List.take (↑a.length:Int).toNat (List.drop (Int.toNat (0:Int)) (paQ a b (-1:Int)))))/\p=p/\((0:Int)<=0/\(0:Int)<=(↑(paR a b (-1:Int)).length:Int)/\(0:Int)+(↑(paR a b (-1:Int)).length:Int)<=(↑(paR a b (-1:Int)).length:Int))/\Dig (List.take (↑(paR a b (-1:Int)).length:Int).toNat (List.drop (Int.toNat (0:Int)) (paR a b (-1:Int))))/\Sm (List.take (↑(paR a b (-1:Int)).length:Int).toNat (List.drop (Int.toNat (0:Int)) (paR a b (-1:Int)))))
def amS (p q:Bool) (a b:List Int):AV:=(AV.tuple [AV.agg [AV.bool true (!p==q&&decide (val (List.take (↑a.length:Int).toNat (List.drop (Int.toNat (0:Int)) (paQ a b (-1:Int))))≠0)),AV.islice true 2 (0:Int) (↑(aA (val (List.take (↑a.length:Int).toNat (List.drop (Int.toNat (0:Int)) (paQ a b (-1:Int))))).toNat).length:Int)],AV.agg [AV.bool true (p&&decide (val (List.take (↑(paR a b (-1:Int)).length:Int).toNat (List.drop (Int.toNat (0:Int)) (paR a b (-1:Int))))≠0)),AV.islice true 3 (0:Int) (↑(aA (val (List.take (↑(paR a b (-1:Int)).length:Int).toNat (List.drop (Int.toNat (0:Int)) (paR a b (-1:Int))))).toNat).length:Int)]])
def amT (p q:Bool) (a b:List Int):Hp:=⟨[{ wr:=30,body:=ABody.ints i64 (aA (val (List.take (↑(paR a b (-1:Int)).length:Int).toNat (List.drop (Int.toNat (0:Int)) (paR a b (-1:Int))))).toNat) },{ wr:=29,body:=ABody.ints i64 (aA (val (List.take (↑a.length:Int).toNat (List.drop (Int.toNat (0:Int)) (paQ a b (-1:Int))))).toNat) },{ wr:=(0:Nat),body:=ABody.rows i64 b },{ wr:=(0:Nat),body:=ABody.rows i64 a }],4,32⟩
theorem asD (p q:Bool) (a b:List Int):(run (amN p q a b) 300).call 81 (j4 p q a b) (leH a b)=some ⟨.p (ahe p q a b),[⟨.tt,amS p q a b,amT p q a b⟩]⟩:=by kernel_rfl
def ahf (p q:Bool) (a b:List Int):Prop:=(((↑a.length:Int)=(↑a.length:Int)/\(0:Int)<=(↑a.length:Int)/\(↑a.length:Int)<=1048576)/\decide (i64.wrap ((↑a.length:Int) - (1:Int))>=0)=false/\(((0:Int)<=0/\(0:Int)<=(↑a.length:Int)/\(0:Int)+(↑a.length:Int)<=(↑(List.replicate (↑a.length:Int).toNat (0:Int)).length:Int))/\Dig (List.take (↑a.length:Int).toNat (List.drop (Int.toNat (0:Int)) (List.replicate (↑a.length:Int).toNat (0:Int))))/\Sm (List.take (↑a.length:Int).toNat (List.drop (Int.toNat (0:Int)) (List.replicate (↑a.length:Int).toNat (0:Int)))))/\p=p/\Dig []/\Sm [])
def amU (p q:Bool) (a b:List Int):AV:=(AV.tuple [AV.agg [AV.bool true (!p==q&&decide (val (List.take (↑a.length:Int).toNat (List.drop (Int.toNat (0:Int)) (List.replicate (↑a.length:Int).toNat (0:Int))))≠0)),AV.islice true 2 (0:Int) (↑(aA (val (List.take (↑a.length:Int).toNat (List.drop (Int.toNat (0:Int)) (List.replicate (↑a.length:Int).toNat (0:Int))))).toNat).length:Int)],AV.agg [AV.bool true (p&&decide (val []≠0)),AV.islice true 3 (0:Int) (↑(aA (val []).toNat).length:Int)]])
def amV (p q:Bool) (a b:List Int):Hp:=⟨[{ wr:=31,body:=ABody.ints i64 (aA (val []).toNat) },{ wr:=30,body:=ABody.ints i64 (aA (val (List.take (↑a.length:Int).toNat (List.drop (Int.toNat (0:Int)) (List.replicate (↑a.length:Int).toNat (0:Int))))).toNat) },{ wr:=(0:Nat),body:=ABody.rows i64 b },{ wr:=(0:Nat),body:=ABody.rows i64 a }],4,33⟩
theorem asE (p q:Bool) (a b:List Int):(run (cHf 19) 300).call 81 (j4 p q a b) (leH a b)=some ⟨.p (ahf p q a b),[⟨.tt,amU p q a b,amV p q a b⟩]⟩:=by kernel_rfl
structure PaD (a b:List Int):Prop where
 ha:Dig a
 hb:Dig b
 tb:Top b
 ne:b≠[]
 sm:a.length+b.length<=400000
theorem PaD.pos {a b:List Int} (h:PaD a b):0<val b:=by have:=aO h.hb;have:=EQ h.hb h.tb h.ne;omega
theorem acf (x:Int) (r:List Int):tkR x (some r)=aA (x+1000000000*val r).toNat:=by show aA (val (List.take ((↑(1:Nat):Int)+(↑r.length:Int)).toNat (List.drop (Int.toNat 0) ([x]++List.take (↑r.length:Int).toNat (List.drop (Int.toNat 0) r))))).toNat=_;rw [td,show (Int.toNat 0)=0 from rfl,iA,ib (by simp;omega)];rfl
theorem Jr {a b:List Int} (h:PaD a b) (y:Option Int) (c:∀ i,y=some i->True):paT a b y=aA (paV a b (paI a y)).toNat:=by
 have d:=h.pos
 cases y with
 | none=>
  show aA (val [a.getD ((a.length:Int) - 1).toNat 0]).toNat=aA (paV a b ((a.length:Int) - 1)).toNat;unfold paV;rw [aac];simp [val]
 | some i=>
  show tkR (a.getD i.toNat 0) (some (paR a b i))=aA (paV a b i).toNat;rw [acf];unfold paR paV;rw [jZ];have:=dE (dA a i) (show val b≠0 by omega);rw [show (((val (a.drop (i+1).toNat) % val b).toNat:Nat):Int)=dA a i % val b from by show (((dA a i % val b).toNat:Nat):Int)=_;omega]
theorem Va {a b:List Int} (h:PaD a b) (y:Option Int):val (paT a b y)=paV a b (paI a y):=by have:=MP h.ha h.pos (paI a y);rw [Jr h y (fun _ _=>trivial),jZ];omega
theorem amW {n:Nat} {b:List Int} (hb:Dig b) (h:(n:Int)<1000000000*val b):(aA n).length<=b.length+1:=by have:=eF hb;have e:pw (b.length+1)=1000000000*pw b.length:=rfl;exact lL (by omega)
theorem acg {a b:List Int} (h:PaD a b) (y:Option Int):TkD (paT a b y) b:=by
 have hb:=MP h.ha h.pos (paI a y);have sm:=h.sm;have c:(aA (paV a b (paI a y)).toNat).length<=b.length+1:=amW h.hb (by omega);refine ⟨?_,?_,?_,h.hb,h.tb,by omega,h.ne,?_⟩
 .rw [Jr h y (fun _ _=>trivial)];exact bU _
 .rw [Jr h y (fun _ _=>trivial)];exact mD _
 .rw [Jr h y (fun _ _=>trivial)];omega
 .rw [Va h];exact hb.2
theorem Np (p q:Bool) {a b:List Int} (h:PaD a b) (y:Option Int) {l:Bool} (c:l=decide (val (paT a b y)<val b)):CtxOk (cPa p q a b y l):=
 bE (acd 19) (CodeOk.ctx (C:=cL2) (D:=cHt 19) rfl rfl (ahc p q a (paI a y) (paX a y) (paO a b y) (acg h y) c)) (bJ (acd 19))
theorem Vb {a b:List Int} (h:PaD a b) (i:Int):Dig (paR a b i)/\(paR a b i).length<=b.length:=by have c:=h.pos;have h1:=dE (val (a.drop (i+1).toNat)) (show val b≠0 by omega);have h2:=d9 (val (a.drop (i+1).toNat)) c;have h3:=eF h.hb;exact ⟨bU _,lL (by omega)⟩
theorem ach {a b:List Int} (h:PaD a b) (y:Option Int) (c:0<=paI a y) (h1:paI a y<a.length):paN a y=paI a y - 1:=by
 have sm:=h.sm
 cases y with
 | none=>
  show i64.wrap ((a.length:Int) - 1 - 1)=a.length - 1 - 1;exact iw (by omega) (by omega)
 | some i=>
  have c:0<=i:=c;have h1:i<a.length:=h1;show i64.wrap (i - 1)=i - 1;exact iw (by omega) (by omega)
theorem ahg {a b:List Int} (h:PaD a b) (y:Option Int) (d:0<=paI a y) (h1:paI a y<a.length):
  (val (paT a b y)<val b->paT a b y=paR a b (paN a y)/\(paQ a b (paI a y)).set (0+paI a y).toNat 0=paQ a b (paN a y)) /\
  (¬ val (paT a b y)<val b->aA (val (paT a b y) % val b).toNat=paR a b (paN a y)/\(paQ a b (paI a y)).set (0+paI a y).toNat (val (paT a b y) / val b)=paQ a b (paN a y)):=by
 have f:=h.pos;have hb:=MP h.ha f (paI a y);have e:=Va h y;have r:=aad (a:=a) f d h1;have q:=aae h.ha f d h1;rw [ach h y d h1,show (0+paI a y).toNat=(paI a y).toNat by omega,e];refine ⟨fun c=>?_,fun g=>⟨r.symm,q⟩⟩;rw [mV hb.1 c] at r;rw [oH hb.1 c] at q;exact ⟨by rw [r,Jr h y (fun _ _=>trivial)],q⟩
theorem ahh (p q:Bool) {a b:List Int} (h:PaD a b) (u:0<a.length):CodeOk cL2 Nj (.loop paA) (paS p q a b) ⟨.tt,[⟨.tt,.exit 0,aJ (paS p q a b) (paE a b)⟩]⟩:=by
 have sm:=h.sm;refine jm (paU a b) (y0:=(none,decide (val (paT a b none)<val b))) ⟨rfl,by show -1<=(a.length:Int) - 1;omega,by show (a.length:Int) - 1<a.length;omega,fun _=>by show 0<=(a.length:Int) - 1;omega⟩ ⟨_,ace p q a b,?_⟩ (by kernel_rfl) (fun z r=>?_) rfl
 .exact ⟨iw (by omega) (by omega),by rw [show ((a.length:Int)).toNat=a.length by omega];exact ae8 a b⟩
 obtain ⟨y,l⟩:=z;obtain ⟨d,i0,i1,s⟩:=(show l=decide (val (paT a b y)<val b)/\-1<=paI a y/\paI a y<a.length/\(y=none->0<=paI a y) from r);have k:0<=paI a y->∀ l,(paU a b).I ((paU a b).next (y,l))/\(paU a b).μ ((paU a b).next (y,l))<(paU a b).μ (y,l):=by
  intro hi l;have e:=ach h y hi i1;refine ⟨⟨rfl,?_,?_,fun h=>by cases h⟩,?_⟩
  .show -1<=paN a y;omega
  .show paN a y<a.length;omega
  .show (paN a y+1).toNat<(paI a y+1).toNat;omega
 by_cases hi:0<=paI a y
 .obtain ⟨n,o⟩:=ahg h y hi i1;obtain ⟨g,j⟩:=k hi l;have hq:∀ y,(paQ a b (paI a y)).length=a.length:=fun y=>eD _ _;have v:=(acg h y)
  cases y with
  | none=>
   have hi:0<=(a.length:Int) - 1:=hi;have m:=h.ha.get ((a.length:Int) - 1).toNat;have hd:Dig [a.getD ((a.length:Int) - 1).toNat 0]/\Sm [a.getD ((a.length:Int) - 1).toNat 0]:=⟨fA.2 ⟨m,jF⟩,by show 1<=500000;omega⟩
   cases l with
   | true=>
    obtain ⟨c,f⟩:=n (bK d.symm);exact ⟨cPa p q a b none true,300,Np p q h none d,rfl,rfl,_,amO p q a b,⟨aI hi,⟨⟨hi,by omega⟩,by omega⟩,hd,rfl,⟨rfl,rfl,rfl⟩,⟨hi,by omega⟩,by rw [hq];omega⟩,fun _=>⟨⟨⟨⟨rfl,by rw [c]⟩,rfl⟩,f,c⟩,g,j,rfl⟩⟩
   | false=>
    obtain ⟨c,f⟩:=o (dJ d.symm);exact ⟨cPa p q a b none false,300,Np p q h none d,rfl,rfl,_,amP p q a b,⟨aI hi,⟨⟨hi,by omega⟩,by omega⟩,hd,rfl,⟨rfl,rfl,rfl⟩,⟨hi,by omega⟩,by rw [hq];omega⟩,fun _=>⟨⟨⟨⟨rfl,by rw [c]⟩,rfl⟩,f,c⟩,g,j,rfl⟩⟩
  | some i=>
   have hi:0<=i:=hi;have i1:i<a.length:=i1;have m:=h.ha.get i.toNat;obtain ⟨r1,w⟩:=Vb h i;have t:List.take ((↑(1:Nat):Int)+(↑(paR a b i).length:Int)).toNat (List.drop (Int.toNat 0) ([a.getD i.toNat 0]++List.take (↑(paR a b i).length:Int).toNat (List.drop (Int.toNat 0) (paR a b i))))=a.getD i.toNat 0 :: paR a b i:=by rw [td,show (Int.toNat 0)=0 from rfl,iA,ib (by simp;omega)];rfl
   have hd:(((0:Int)<=0/\(0:Int)<=(↑(1:Nat):Int)+(↑(paR a b i).length:Int)/\(0:Int)+((↑(1:Nat):Int)+(↑(paR a b i).length:Int))<=(↑([a.getD i.toNat (0:Int)]++List.take (↑(paR a b i).length:Int).toNat (List.drop (Int.toNat (0:Int)) (paR a b i))).length:Int))/\Dig (List.take ((↑(1:Nat):Int)+(↑(paR a b i).length:Int)).toNat (List.drop (Int.toNat 0) ([a.getD i.toNat 0]++List.take (↑(paR a b i).length:Int).toNat (List.drop (Int.toNat 0) (paR a b i)))))/\Sm (List.take ((↑(1:Nat):Int)+(↑(paR a b i).length:Int)).toNat (List.drop (Int.toNat 0) ([a.getD i.toNat 0]++List.take (↑(paR a b i).length:Int).toNat (List.drop (Int.toNat 0) (paR a b i)))))):=by rw [t];refine ⟨?_,fA.2 ⟨m,r1⟩,by show (_ :: paR a b i).length<=500000;simp only [il];omega⟩;rw [td];simp only [jM,il,mY];omega
   cases l with
   | true=>
    obtain ⟨c,f⟩:=n (bK d.symm);exact ⟨cPa p q a b (some i) true,300,Np p q h (some i) d,rfl,rfl,_,amQ p q a b i,⟨aI hi,⟨⟨hi,i1⟩,by omega,xu,by omega⟩,hd,rfl,⟨rfl,rfl,rfl⟩,⟨hi,i1⟩,by rw [hq];omega⟩,fun _=>⟨⟨⟨⟨rfl,by rw [c]⟩,rfl⟩,f,c⟩,g,j,rfl⟩⟩
   | false=>
    obtain ⟨c,f⟩:=o (dJ d.symm);exact ⟨cPa p q a b (some i) false,300,Np p q h (some i) d,rfl,rfl,_,amR p q a b i,⟨aI hi,⟨⟨hi,i1⟩,by omega,xu,by omega⟩,hd,rfl,⟨rfl,rfl,rfl⟩,⟨hi,i1⟩,by rw [hq];omega⟩,fun _=>⟨⟨⟨⟨rfl,by rw [c]⟩,rfl⟩,f,c⟩,g,j,rfl⟩⟩
 .cases y with
  | none=>exact absurd (s rfl) hi
  | some i=>
   have i0:-1<=i:=i0;have hi:¬ 0<=i:=hi;have:i=-1:=by omega
   subst this;exact ⟨cHf 19,300,Ni 19,rfl,rfl,_,asC p q a b (-1) l,rfl,fun _=>⟨⟨⟨rfl,rfl⟩,rfl,rfl⟩,rfl⟩⟩
theorem ahi (p q:Bool) {a b:List Int} (h:PaD a b) (c:0<a.length):CtxOk (amN p q a b):=bE mM (ahh p q h c) (bJ mM)
def ptV:List Nu->List (List Int)->Option (Prop×To)
 | [.t p,.t q],[a,b]=>some (okL p a/\okL q b/\b≠[]/\a.length+b.length<=400000,.tu [lgT false ((zv p a).tdiv (zv q b)),lgT false ((zv p a).tmod (zv q b))])
 | _,_=>none
theorem QQ:NOk Tryz.prog (fun _=>none) hG0 81 (bQ hG0 .i64 [.st [.nu .b,.li],.st [.nu .b,.li]] ptV):=by
 refine fw (fun xs ys p t e h=>?_) ⟨_,Tryz.func81,rfl⟩;unfold ptV at e;split at e
 .rename_i p q a b;cases e;obtain ⟨ha,hb,i,j⟩:=h;have k:PaD a b:=⟨ha.1,hb.1,hb.2.1,i,j⟩;have l:=aO ha.1;have r:=k.pos;have m:0<=val a / val b:=bu l (by omega);have r0:=dE (val a) (show val b≠0 by omega);have c:(zv p a).tdiv (zv q b)=bif (!p==q) then -(val a / val b) else val a / val b:=by
   rw [<- bV l];cases p <;> cases q <;> simp [zv,zF,Int.tdiv_neg]
  have d:(zv p a).tmod (zv q b)=bif p then -(val a % val b) else val a % val b:=by rw [<- cO l];cases p <;> cases q <;> simp [zv,Int.neg_tmod,Int.tmod_neg]
  by_cases n:a=[]
  .subst n;refine ⟨cHf 19,300,j4 p q [] b,_,_,_,_,_,Ni 19,rfl,rfl,⟨⟨rfl,rfl,trivial⟩,⟨rfl,rfl,trivial⟩,trivial⟩,asE p q [] b,rfl,⟨⟨rfl,by decide,by decide⟩,by decide,⟨by decide,jF,by show 0<=500000;omega⟩,rfl,jF,by show 0<=500000;omega⟩,rfl,rfl,⟨⟨?_,?_,?_⟩,⟨?_,?_,?_⟩⟩⟩
   .show (!p==q&&decide (val []≠0))=decide ((zv p []).tdiv (zv q b)<0);exact uB (v:=val ([]:List Int)) (by decide) (by rw [c];simp [val])
   .exact xu
   .show List.take ((aA (val ([]:List Int)).toNat).length:Int).toNat (List.drop (Int.toNat 0) (aA (val ([]:List Int)).toNat))=aA ((zv p []).tdiv (zv q b)).natAbs;rw [td,uC (v:=val ([]:List Int)) (p:=!p==q) (z:=(zv p []).tdiv (zv q b)) (by decide) (by rw [c];simp [val])]
   .show (p&&decide (val []≠0))=decide ((zv p []).tmod (zv q b)<0);exact uB (v:=val ([]:List Int)) (by decide) (by rw [d];simp [val])
   .exact xu
   .show List.take ((aA (val ([]:List Int)).toNat).length:Int).toNat (List.drop (Int.toNat 0) (aA (val ([]:List Int)).toNat))=aA ((zv p []).tmod (zv q b)).natAbs;rw [td,uC (v:=val ([]:List Int)) (p:=p) (z:=(zv p []).tmod (zv q b)) (by decide) (by rw [d];simp [val])]
  .have f:0<a.length:=eU.2 n;obtain ⟨l1,l2,l3⟩:=ae9 (b:=b) ha.1 r;have g:List.take ((a.length:Int)).toNat (List.drop (Int.toNat 0) (paQ a b (-1)))=paQ a b (-1):=by
    rw [show ((a.length:Int)).toNat=(paQ a b (-1)).length by omega,show (Int.toNat 0)=0 from rfl,iA,gp]
   have r1:=afa a b;obtain ⟨s,u⟩:=Vb k (-1);have o:val (paR a b (-1))=val a % val b:=by rw [r1,jZ];omega
   refine ⟨amN p q a b,300,j4 p q a b,_,_,_,_,_,ahi p q k f,rfl,rfl,⟨⟨rfl,rfl,trivial⟩,⟨rfl,rfl,trivial⟩,trivial⟩,asD p q a b,rfl,⟨⟨rfl,by omega,by omega⟩,⟨rfl,rfl,rfl⟩,⟨⟨by omega,by omega,by omega⟩,by rw [g];exact l2,by rw [g];show _<=500000;omega⟩,rfl,xu,by rw [td];exact s,by rw [td];show _<=500000;omega⟩,rfl,rfl,⟨⟨?_,?_,?_⟩,⟨?_,?_,?_⟩⟩⟩
   .show (!p==q&&decide (val (List.take ((a.length:Int)).toNat (List.drop (Int.toNat 0) (paQ a b (-1))))≠0))=decide ((zv p a).tdiv (zv q b)<0);rw [g,l3];exact uB m c
   .exact xu
   .show List.take _ (List.drop _ (aA (val (List.take ((a.length:Int)).toNat (List.drop (Int.toNat 0) (paQ a b (-1))))).toNat))=aA ((zv p a).tdiv (zv q b)).natAbs;rw [g,td,l3,uC m c]
   .show (p&&decide (val (List.take _ (List.drop _ (paR a b (-1))))≠0))=decide ((zv p a).tmod (zv q b)<0);rw [td,o];exact uB r0 d
   .exact xu
   .show List.take _ (List.drop _ (aA (val (List.take _ (List.drop _ (paR a b (-1))))).toNat))=aA ((zv p a).tmod (zv q b)).natAbs;rw [td,td,o,uC r0 d]
 .cases e
def lgA (id:Nat) (z:Int):List AV:=[.bool true (decide (z<0)),.lslice id (aA z.natAbs).length]
end
end Go.Proofs.YtbiiiloimbjpaaaGreatDoor.K
namespace Go.Dg
open Go Go.Eng
noncomputable section
def frL {a:Type}:List Int->(List Int->a)->a
 | [],k=>k []
 | x :: l,k=>xA x fun x=>frL l fun l=>k (x :: l)
theorem aci {a:Type}:∀ (l:List Int) (k:List Int->a),frL l k=k l
 | [],_=>rfl
 | x :: l,k=>by rw [frL,Fs,aci]
def frB {a:Type} (b:Bool) (k:Bool->a):a:=match b with|true=>k true|false=>k false
theorem amX {a:Type} (b:Bool) (k:Bool->a):frB b k=k b:=by cases b <;> rfl
def frT {a:Type} (t:To) (k:To->a):a:=match t with
 | .st [.bo b,.li o l]=>frB b fun b=>frL l fun l=>k (.st [.bo b,.li o l])
 | t=>k t
theorem SY {a:Type} (t:To) (k:To->a):frT t k=k t:=by
 unfold frT;split
 .rw [amX,aci]
 .rfl
def Nq (V:List Nu->List (List Int)->Option (Prop×To)) (xs:List Nu) (ys:List (List Int)):Option (Prop×To):=match V xs ys with
 | some (p,.tu [a,b])=>frT a fun a=>frT b fun b=>some (p,.tu [a,b])
 | some (p,t)=>frT t fun t=>some (p,t)
 | none=>none
theorem ahj (V:List Nu->List (List Int)->Option (Prop×To)):Nq V=V:=by
 funext xs ys;unfold Nq;split
 .rename_i h;rw [SY,SY,h]
 .rename_i h;rw [SY,h]
 .rename_i h;rw [h]
end
end Go.Dg
namespace Go.Proofs.YtbiiiloimbjpaaaGreatDoor.K
open Go Go.Eng Go.Dg Go.Ar Go.Vc
noncomputable section
def psA:List Ma:=[.st [.nu .b,.li],.st [.nu .b,.li]]
def noZ (V:List Nu->List (List Int)->Option (Prop×To)) (xs:List Nu) (ys:List (List Int)):Option (Prop×To):=match ys with
 | [] :: _=>none
 | [_,[]]=>none
 | _=>V xs ys
theorem acj {f:FuncId} {b:List Ma} {V:List Nu->List (List Int)->Option (Prop×To)} (h:NOk Tryz.prog (fun _=>none) hG0 f (bQ hG0 .i64 b V)):NOk Tryz.prog (fun _=>none) hG0 f (bQ hG0 .i64 b (noZ V)):=by
 refine h.weaken fun args hp nd v bs e=>?_;refine ⟨nd,v,?_,fun h=>⟨h,fun _ _ k=>k⟩⟩;unfold bQ at e ⊢;split at e
 .cases e
 .rename_i c xs ys d;split at e
  .cases e
  .rename_i p t a;unfold noZ at a;split at a
   .cases a
   .cases a
   .rw [a];exact e
theorem Fb {f:FuncId} {a:List Ma} {V:List Nu->List (List Int)->Option (Prop×To)} (h:NOk Tryz.prog (fun _=>none) hG0 f (bQ hG0 .i64 a V)):NOk Tryz.prog (fun _=>none) hG0 f (bQ hG0 .i64 a (Nq V)):=by rw [ahj];exact h
def tCl:List (FuncId×ku):=
 (46,bQ hG0 .i64 psA (Nq (noZ agZ))) ::
 (53,bQ hG0 .i64 psA (Nq (noZ dfV))) ::
 (47,bQ hG0 .i64 psA (Nq ag7)) ::
 (81,bQ hG0 .i64 psA (Nq ptV)) ::
 (49,bQ hG0 .i64 [.nu (.i .i64)] (Nq ofV)) ::
 (78,bQ hG0 .i64 [.st [.nu .b,.li]] (Nq miV)) :: []
theorem amY:∀ x∈tCl,NOk Tryz.prog (fun _=>none) hG0 x.1 x.2:=by
 intro x a;simp only [tCl,aN,eX,eY] at a;rcases a with rfl|rfl|rfl|rfl|rfl|rfl
 .exact Fb (acj sum_ok)
 .exact Fb (acj Jq)
 .exact Fb U9
 .exact Fb QQ
 .exact Fb U8
 .exact Fb Jp
noncomputable def cCl:Ctx:=mkN Tryz.prog (fun _=>none) hG0 tCl [] lw
theorem ack:CtxOk cCl:=mf prog_ok (iY _) amY (fun x h=>by cases h)
def hCl (T A B:Nat):Nat->Nat->Option AV:=fun c t=>match Nat.beq t 21 with
 | true=>match Nat.blt c T with
  | true=>some (.bool false true)
  | false=>some (.bool false false)
 | false=>match Nat.beq t 12 with
  | true=>match Nat.blt c A with
   | true=>some (.bool false true)
   | false=>some (.bool false false)
  | false=>match Nat.beq t 17||Nat.beq t 18 with
   | true=>match Nat.blt c B with
    | true=>some (.bool false false)
    | false=>some (.bool false true)
   | false=>none
noncomputable def acl (T A B:Nat):Ctx:=eZ cCl (hCl T A B)
theorem Vd (T A B:Nat):CtxOk (acl T A B):=bW ack _
end
end Go.Proofs.YtbiiiloimbjpaaaGreatDoor.K
namespace Go.Dg
open Go Go.Eng
def aZ (n:Int):Prop:=n.natAbs<=9223372036854775808
theorem acm {n:Int} (h:n.natAbs<=9223372036854775808):aZ n:=h
def aM (a:List Int):Prop:=false=false/\(a.length:Int)=(a.length:Int)
theorem S9 (a:List Int):aM a:=⟨rfl,rfl⟩
def bP (a b:List Int):Prop:=((a.length:Int)=(a.length:Int)/\(b.length:Int)=(b.length:Int))/\okL false a/\okL false b/\a.length+b.length<=500000
def dX (a b:List Int):Prop:=((a.length:Int)=(a.length:Int)/\(b.length:Int)=(b.length:Int))/\okL false a/\okL false b/\b≠[]/\a.length+b.length<=400000
def xw (a b:List Int):Prop:=((a.length:Int)=(a.length:Int)/\(b.length:Int)=(b.length:Int))/\okL false a/\okL false b/\a≠[]/\b≠[]/\val a+val b<pw 400000
def xc (a b:List Int):Prop:=((a.length:Int)=(a.length:Int)/\(b.length:Int)=(b.length:Int))/\okL false a/\okL false b/\false=false/\a≠[]/\b≠[]
def dgB (a:List Int):Bool:=a.all fun x=>decide (0<=x)&&decide (x<1000000000)
def tpB (a:List Int):Bool:=decide (a.getD (a.length - 1) 0≠0)
def okB (a:List Int):Bool:=dgB a&&(tpB a&&(Nat.ble a.length 1000&&!a.isEmpty))
theorem oC {a:List Int} (h:okB a=true):okL false a/\a≠[]/\a.length<=1000/\val a<pw 1000:=by
 unfold okB at h;simp only [aF,iT,gN,List.isEmpty_eq_false_iff] at h;obtain ⟨h1,h2,h3,b⟩:=h;have hd:Dig a:=by intro x c;unfold dgB at h1;have:=zg.1 h1 x c;simpa using this
 have d:Top a:=by unfold tpB at h2;exact .inr (bK h2)
 refine ⟨⟨hd,d,fun h=>(by cases h),by show a.length<=500000;omega⟩,b,h3,?_⟩;have:=eF hd;have:=gF h3;omega
theorem Ta {a b:List Int} (h:(okB a&&okB b)=true):bP a b:=by simp only [aF] at h;obtain ⟨a1,a2,d,_⟩:=oC h.1;obtain ⟨c,f,g,_⟩:=oC h.2;exact ⟨⟨rfl,rfl⟩,a1,c,by omega⟩
theorem Tc {a b:List Int} (h:(okB a&&okB b)=true):dX a b:=by simp only [aF] at h;obtain ⟨a1,a2,f,_⟩:=oC h.1;obtain ⟨c,d,g,_⟩:=oC h.2;exact ⟨⟨rfl,rfl⟩,a1,c,d,by omega⟩
theorem Te {a b:List Int} (h:(okB a&&okB b)=true):xw a b:=by
 simp only [aF] at h;obtain ⟨a1,a2,g,i⟩:=oC h.1;obtain ⟨c,d,j,k⟩:=oC h.2;refine ⟨⟨rfl,rfl⟩,a1,c,a2,d,?_⟩;have f:=gF (show 1000+1<=400000 by omega);rw [pw] at f;have e3:=pw_pos 1000;generalize pw 1000=Q at *
 omega
theorem Tf {a b:List Int} (h:(okB a&&okB b)=true):xc a b:=by simp only [aF] at h;obtain ⟨a1,a2,_⟩:=oC h.1;obtain ⟨c,d,_⟩:=oC h.2;exact ⟨⟨rfl,rfl⟩,a1,c,rfl,a2,d⟩
end Go.Dg
namespace Go.Proofs.YtbiiiloimbjpaaaGreatDoor.K
open Go Go.Eng Go.Dg
noncomputable section
def qD0:List Int:=[1]
def qD1:List Int:=[10]
def qD2:List Int:=[100]
def qD3:List Int:=[1000]
def qD4:List Int:=[10000]
def qD5:List Int:=[100000]
def qD6:List Int:=[1000000]
def qD7:List Int:=[10000000]
def qD8:List Int:=[100000000]
def qD9:List Int:=[0,1]
def apy:List Int:=[0,10]
def apz:List Int:=[0,100]
def apA:List Int:=[0,1000]
def apB:List Int:=[0,10000]
def apC:List Int:=[0,100000]
def apD:List Int:=[0,1000000]
def apE:List Int:=[0,10000000]
def apF:List Int:=[0,100000000]
def apG:List Int:=[0,0,1]
def apH:List Int:=[0,0,10]
def apI:List Int:=[0,0,100]
def apJ:List Int:=[0,0,1000]
def apK:List Int:=[0,0,10000]
def apL:List Int:=[0,0,100000]
def apM:List Int:=[0,0,1000000]
def apN:List Int:=[0,0,10000000]
def apO:List Int:=[0,0,100000000]
def apP:List Int:=[0,0,0,1]
def apQ:List Int:=[0,0,0,10]
def apR:List Int:=[0,0,0,100]
def apS:List Int:=[0,0,0,1000]
def apT:List Int:=[0,0,0,10000]
def apU:List Int:=[0,0,0,100000]
def apV:List Int:=[0,0,0,1000000]
def apW:List Int:=[0,0,0,10000000]
def apX:List Int:=[0,0,0,100000000]
def apY:List Int:=[0,0,0,0,1]
def apZ:List Int:=[0,0,0,0,10]
def ap0:List Int:=[0,0,0,0,100]
def ap1:List Int:=[0,0,0,0,1000]
def Fe:List Int:=[0,0,0,0,10000]
def Xt:List Int:=[7]
def JK:List Int:=[428571428,571428571,428571428,571428571,1428]
def iW:List Int:=[49]
def Nr:List Int:=[763848396,256559766,437317784,154518950,29]
def QR:List Int:=[3]
def asF:List Int:=[254616132,85519922,479105928,718172983,9]
def Ns:List Int:=[525792824,229725709,661986077,594990182]
def ahk:List Int:=[5]
def asG:List Int:=[173955296,485908649,949465500,853255587,1418]
def asH:List Int:=[905158564,445945141,532397215,118998036]
def Nt:List Int:=[51546792,25096443,789020124,12142656]
def asI:List Int:=[79113860,931853791,481862715,972253624,1418]
def asJ:List Int:=[721649541,432156634,255574303,1734665]
def Nv:List Int:=[674521363,490308090,322224900,247809]
def xy:List Int:=[9]
def asK:List Int:=[357464319,499697156,226288412,970518959,1418]
def asL:List Int:=[741613484,54478676,369136100,27534]
def Nw:List Int:=[523969823,622251185,333106630,5057]
def ahl:List Int:=[11]
def asM:List Int:=[99077803,554175833,595424512,970546493,1418]
def asN:List Int:=[411269983,238386471,757555148,459]
def Ny:List Int:=[643346322,155556146,210879727,103]
def ahm:List Int:=[13]
def asO:List Int:=[687807820,315789361,837869364,970546033,1418]
def asP:List Int:=[895642024,550427395,939298440,7]
def Nz:List Int:=[155986659,227664411,106344484,2]
def ahn:List Int:=[15]
def asQ:List Int:=[583449844,866216757,777167804,970546041,1418]
def asR:List Int:=[410399110,615177627,140422965]
def NA:List Int:=[64407891,127095192,42986622]
def aho:List Int:=[17]
def asS:List Int:=[173050734,251039130,636744839,970546041,1418]
def asT:List Int:=[533200464,831005599,2528624]
def NB:List Int:=[429885875,2593779,877278]
def ahp:List Int:=[19]
def asU:List Int:=[706251198,82044729,639273464,970546041,1418]
def asV:List Int:=[180520309,526452304,46172]
def NC:List Int:=[498569099,632705995,17903]
def ahq:List Int:=[21]
def asW:List Int:=[525730889,555592425,639227291,970546041,1418]
def asX:List Int:=[738027099,553938380,852]
def ND:List Int:=[30583042,380259306,365]
def ahr:List Int:=[23]
def asY:List Int:=[263757988,109530806,639228144,970546041,1418]
def asZ:List Int:=[696981871,886098230,15]
def NE:List Int:=[837358837,456739985,7]
def ahs:List Int:=[25]
def as0:List Int:=[566776117,223432575,639228128,970546041,1418]
def as1:List Int:=[433494353,298269599]
def NF:List Int:=[57905282,152178367]
def aht:List Int:=[27]
def as2:List Int:=[270470,521702175,639228128,970546041,1418]
def as3:List Int:=[816959454,5636235]
def NG:List Int:=[960365413,3105680]
def ap2:List Int:=[29]
def as4:List Int:=[183311016,516065939,639228128,970546041,1418]
def as5:List Int:=[446909152,107092]
def NH:List Int:=[244089090,63381]
def ap3:List Int:=[31]
def ap4:List Int:=[630220168,516173031,639228128,970546041,1418]
def ap5:List Int:=[556260938,2044]
def C8:List Int:=[494777328,1293]
def aiG:List Int:=[33]
def ap6:List Int:=[73959230,516170987,639228128,970546041,1418]
def ap7:List Int:=[196811434,39]
def C9:List Int:=[397852598,26]
def aiH:List Int:=[35]
def ap8:List Int:=[270770664,516171026,639228128,970546041,1418]
def ap9:List Int:=[754224359]
def Da:List Int:=[538731685]
def aiI:List Int:=[37]
def aqa:List Int:=[516546305,516171025,639228128,970546041,1418]
def aqb:List Int:=[14560315]
def Db:List Int:=[10994524]
def aiJ:List Int:=[39]
def aqc:List Int:=[531106620,516171025,639228128,970546041,1418]
def aqd:List Int:=[281910]
def Dc:List Int:=[224378]
def aiK:List Int:=[41]
def aqe:List Int:=[530824710,516171025,639228128,970546041,1418]
def aqf:List Int:=[5472]
def De:List Int:=[4579]
def aiL:List Int:=[43]
def aqg:List Int:=[530830182,516171025,639228128,970546041,1418]
def aqh:List Int:=[106]
def Df:List Int:=[93]
def aiM:List Int:=[45]
def aqi:List Int:=[530830076,516171025,639228128,970546041,1418]
def aqj:List Int:=[2]
def aiN:List Int:=[47]
def acn:List Int:=[530830078,516171025,639228128,970546041,1418]
def aiO:List Int:=[79]
def aqk:List Int:=[0,0,0,0,30000]
def Dh:List Int:=[468354430,544303797,37974683,746835443,379]
def jC:List Int:=[6241]
def aql:List Int:=[215189870,898734177,341772151,721518987,3417]
def FX:List Int:=[533282356,233119489,629120617,547624021]
def aqm:List Int:=[177760785,744373163,543040205,182541340]
def aqn:List Int:=[799541204,98075405,662085555,928616194,4]
def FY:List Int:=[600993357,122752455,781871829,789715]
def aqo:List Int:=[290593645,799930634,494934477,564294102,379]
def aqp:List Int:=[120198671,824550491,156374365,157943]
def aqr:List Int:=[408940213,104772100,36846462,7107442]
def FZ:List Int:=[563276548,942654185,830642019,1138]
def aqs:List Int:=[410792316,624481125,651308843,564452045,379]
def aqt:List Int:=[651896649,134664883,690091717,162]
def aqu:List Int:=[69488932,483887670,475778179,10249]
def F3:List Int:=[252694999,161910573,642281009,1]
def aqv:List Int:=[758895667,489816241,961217126,564451882,379]
def aqw:List Int:=[361410555,684656730,182475667]
def aqx:List Int:=[274254991,457195159,780529082,14]
def F4:List Int:=[195845898,997990257,2368294]
def aqy:List Int:=[120306222,174472972,143692794,564451883,379]
def aqz:List Int:=[563258718,545271841,215299]
def aqA:List Int:=[762613082,981912314,21314654]
def F5:List Int:=[694241726,262775502,3415]
def aqB:List Int:=[557047504,629201130,143477494,564451883,379]
def aqC:List Int:=[514941671,712521192,262]
def aqD:List Int:=[248175534,364979524,30737]
def F6:List Int:=[241347248,925070498,4]
def aqE:List Int:=[71989175,341722323,143477757,564451883,379]
def aqF:List Int:=[216089816,328338033]
def aqG:List Int:=[172125232,325634484,44]
def F7:List Int:=[871041840,7102328]
def aqH:List Int:=[855899359,13384289,143477757,564451883,379]
def aqI:List Int:=[51237755,417784]
def aqJ:List Int:=[839376560,63920959]
def F8:List Int:=[102201470,10242]
def aqK:List Int:=[907137114,13802073,143477757,564451883,379]
def aqL:List Int:=[58010603,539]
def aqM:List Int:=[919813230,92178]
def F9:List Int:=[769895820,14]
def aqN:List Int:=[849126511,13801534,143477757,564451883,379]
def aqO:List Int:=[703328372]
def aqP:List Int:=[929062380,132]
def Ga:List Int:=[21299321]
def aqQ:List Int:=[552454883,13801535,143477757,564451883,379]
def aqR:List Int:=[926057]
def aqS:List Int:=[191693889]
def Gb:List Int:=[30715]
def aqT:List Int:=[551528826,13801535,143477757,564451883,379]
def aqU:List Int:=[1228]
def aqV:List Int:=[276435]
def Gc:List Int:=[44]
def aqW:List Int:=[551530054,13801535,143477757,564451883,379]
def aqX:List Int:=[396]
def aiP:List Int:=[551530053,13801535,143477757,564451883,379]
def Tg (z:Int):Prop:=(aZ 1/\(aZ 10/\aM qD0/\bP qD0 qD1)/\(aZ 10/\aM qD1/\bP qD1 qD1)/\(aZ 10/\aM qD2/\bP qD2 qD1)/\(aZ 10/\aM qD3/\bP qD3 qD1)/\(aZ 10/\aM qD4/\bP qD4 qD1)/\(aZ 10/\aM qD5/\bP qD5 qD1)/\(aZ 10/\aM qD6/\bP qD6 qD1)/\(aZ 10/\aM qD7/\bP qD7 qD1)/\(aZ 10/\aM qD8/\bP qD8 qD1)/\(aZ 10/\aM qD9/\bP qD9 qD1)/\(aZ 10/\aM apy/\bP apy qD1)/\(aZ 10/\aM apz/\bP apz qD1)/\(aZ 10/\aM apA/\bP apA qD1)/\(aZ 10/\aM apB/\bP apB qD1)/\(aZ 10/\aM apC/\bP apC qD1)/\(aZ 10/\aM apD/\bP apD qD1)/\(aZ 10/\aM apE/\bP apE qD1)/\(aZ 10/\aM apF/\bP apF qD1)/\(aZ 10/\aM apG/\bP apG qD1)/\(aZ 10/\aM apH/\bP apH qD1)/\(aZ 10/\aM apI/\bP apI qD1)/\(aZ 10/\aM apJ/\bP apJ qD1)/\(aZ 10/\aM apK/\bP apK qD1)/\(aZ 10/\aM apL/\bP apL qD1)/\(aZ 10/\aM apM/\bP apM qD1)/\(aZ 10/\aM apN/\bP apN qD1)/\(aZ 10/\aM apO/\bP apO qD1)/\(aZ 10/\aM apP/\bP apP qD1)/\(aZ 10/\aM apQ/\bP apQ qD1)/\(aZ 10/\aM apR/\bP apR qD1)/\(aZ 10/\aM apS/\bP apS qD1)/\(aZ 10/\aM apT/\bP apT qD1)/\(aZ 10/\aM apU/\bP apU qD1)/\(aZ 10/\aM apV/\bP apV qD1)/\(aZ 10/\aM apW/\bP apW qD1)/\(aZ 10/\aM apX/\bP apX qD1)/\(aZ 10/\aM apY/\bP apY qD1)/\(aZ 10/\aM apZ/\bP apZ qD1)/\(aZ 10/\aM ap0/\bP ap0 qD1)/\aZ 10/\aM ap1/\bP ap1 qD1)
def aqY (z:Int):AV:=(AV.agg [AV.bool true false,AV.lslice (0:Nat) (↑Fe.length:Int)])
def aqZ (z:Int):Hp:=⟨[{ wr:=444,body:=ABody.rows i64 Fe }],1,453⟩
theorem qpw (z:Int):(run cCl 900).call 45 [.int false .i64 40] hG0=some ⟨.p (Tg z),[⟨.tt,aqY z,aqZ z⟩]⟩:=by kernel_rfl
def aco (z:Int):Prop:=(aZ 0/\(aZ 1/\(5:Int)=5/\aZ 7/\(5:Int)=5/\(((5:Int)=(↑Fe.length:Int)/\(↑qD0.length:Int)=(↑qD0.length:Int))/\okL false Fe/\okL false qD0/\Fe.length+qD0.length<=(500000:Nat))/\aM Xt/\dX Fe Xt)/\(decide ((↑JK.length:Int)>0)=true/\(aZ 1/\aM JK/\aZ 1/\aM JK/\bP JK qD0/\aM qD0/\dX JK qD0)/\((↑([]:List Int).length:Int)==0)=true/\aZ 1/\aM JK/\aZ 49/\aM JK/\bP JK qD0/\aM iW/\dX JK iW)/\(decide ((↑Nr.length:Int)>0)=true/\(aZ 1/\aM Nr/\aZ 3/\aM Nr/\bP Nr qD0/\aM QR/\dX Nr QR)/\xc JK asF/\aZ 1/\aM Nr/\aZ 49/\aM Nr/\bP Nr qD0/\aM iW/\dX Nr iW)/\(decide ((↑Ns.length:Int)>0)=true/\(aZ 1/\aM Ns/\aZ 5/\aM Ns/\bP Ns qD0/\aM ahk/\dX Ns ahk)/\xw asG asH/\aZ 1/\aM Ns/\aZ 49/\aM Ns/\bP Ns qD0/\aM iW/\dX Ns iW)/\(decide ((↑Nt.length:Int)>0)=true/\(aZ 1/\aM Nt/\aZ 7/\aM Nt/\bP Nt qD0/\aM Xt/\dX Nt Xt)/\xc asI asJ/\aZ 1/\aM Nt/\aZ 49/\aM Nt/\bP Nt qD0/\aM iW/\dX Nt iW)/\(decide ((↑Nv.length:Int)>0)=true/\(aZ 1/\aM Nv/\aZ 9/\aM Nv/\bP Nv qD0/\aM xy/\dX Nv xy)/\xw asK asL/\aZ 1/\aM Nv/\aZ 49/\aM Nv/\bP Nv qD0/\aM iW/\dX Nv iW)/\(decide ((↑Nw.length:Int)>0)=true/\(aZ 1/\aM Nw/\aZ 11/\aM Nw/\bP Nw qD0/\aM ahl/\dX Nw ahl)/\xc asM asN/\aZ 1/\aM Nw/\aZ 49/\aM Nw/\bP Nw qD0/\aM iW/\dX Nw iW)/\(decide ((↑Ny.length:Int)>0)=true/\(aZ 1/\aM Ny/\aZ 13/\aM Ny/\bP Ny qD0/\aM ahm/\dX Ny ahm)/\xw asO asP/\aZ 1/\aM Ny/\aZ 49/\aM Ny/\bP Ny qD0/\aM iW/\dX Ny iW)/\(decide ((↑Nz.length:Int)>0)=true/\(aZ 1/\aM Nz/\aZ 15/\aM Nz/\bP Nz qD0/\aM ahn/\dX Nz ahn)/\xc asQ asR/\aZ 1/\aM Nz/\aZ 49/\aM Nz/\bP Nz qD0/\aM iW/\dX Nz iW)/\(decide ((↑NA.length:Int)>0)=true/\(aZ 1/\aM NA/\aZ 17/\aM NA/\bP NA qD0/\aM aho/\dX NA aho)/\xw asS asT/\aZ 1/\aM NA/\aZ 49/\aM NA/\bP NA qD0/\aM iW/\dX NA iW)/\(decide ((↑NB.length:Int)>0)=true/\(aZ 1/\aM NB/\aZ 19/\aM NB/\bP NB qD0/\aM ahp/\dX NB ahp)/\xc asU asV/\aZ 1/\aM NB/\aZ 49/\aM NB/\bP NB qD0/\aM iW/\dX NB iW)/\(decide ((↑NC.length:Int)>0)=true/\(aZ 1/\aM NC/\aZ 21/\aM NC/\bP NC qD0/\aM ahq/\dX NC ahq)/\xw asW asX/\aZ 1/\aM NC/\aZ 49/\aM NC/\bP NC qD0/\aM iW/\dX NC iW)/\(decide ((↑ND.length:Int)>0)=true/\(aZ 1/\aM ND/\aZ 23/\aM ND/\bP ND qD0/\aM ahr/\dX ND ahr)/\xc asY asZ/\aZ 1/\aM ND/\aZ 49/\aM ND/\bP ND qD0/\aM iW/\dX ND iW)/\(decide ((↑NE.length:Int)>0)=true/\(aZ 1/\aM NE/\aZ 25/\aM NE/\bP NE qD0/\aM ahs/\dX NE ahs)/\xw as0 as1/\aZ 1/\aM NE/\aZ 49/\aM NE/\bP NE qD0/\aM iW/\dX NE iW)/\(decide ((↑NF.length:Int)>0)=true/\(aZ 1/\aM NF/\aZ 27/\aM NF/\bP NF qD0/\aM aht/\dX NF aht)/\xc as2 as3/\aZ 1/\aM NF/\aZ 49/\aM NF/\bP NF qD0/\aM iW/\dX NF iW)/\(decide ((↑NG.length:Int)>0)=true/\(aZ 1/\aM NG/\aZ 29/\aM NG/\bP NG qD0/\aM ap2/\dX NG ap2)/\xw as4 as5/\aZ 1/\aM NG/\aZ 49/\aM NG/\bP NG qD0/\aM iW/\dX NG iW)/\(decide ((↑NH.length:Int)>0)=true/\(aZ 1/\aM NH/\aZ 31/\aM NH/\bP NH qD0/\aM ap3/\dX NH ap3)/\xc ap4 ap5/\aZ 1/\aM NH/\aZ 49/\aM NH/\bP NH qD0/\aM iW/\dX NH iW)/\(decide ((↑C8.length:Int)>0)=true/\(aZ 1/\aM C8/\aZ 33/\aM C8/\bP C8 qD0/\aM aiG/\dX C8 aiG)/\xw ap6 ap7/\aZ 1/\aM C8/\aZ 49/\aM C8/\bP C8 qD0/\aM iW/\dX C8 iW)/\(decide ((↑C9.length:Int)>0)=true/\(aZ 1/\aM C9/\aZ 35/\aM C9/\bP C9 qD0/\aM aiH/\dX C9 aiH)/\xc ap8 ap9/\aZ 1/\aM C9/\aZ 49/\aM C9/\bP C9 qD0/\aM iW/\dX C9 iW)/\(decide ((↑Da.length:Int)>0)=true/\(aZ 1/\aM Da/\aZ 37/\aM Da/\bP Da qD0/\aM aiI/\dX Da aiI)/\xw aqa aqb/\aZ 1/\aM Da/\aZ 49/\aM Da/\bP Da qD0/\aM iW/\dX Da iW)/\(decide ((↑Db.length:Int)>0)=true/\(aZ 1/\aM Db/\aZ 39/\aM Db/\bP Db qD0/\aM aiJ/\dX Db aiJ)/\xc aqc aqd/\aZ 1/\aM Db/\aZ 49/\aM Db/\bP Db qD0/\aM iW/\dX Db iW)/\(decide ((↑Dc.length:Int)>0)=true/\(aZ 1/\aM Dc/\aZ 41/\aM Dc/\bP Dc qD0/\aM aiK/\dX Dc aiK)/\xw aqe aqf/\aZ 1/\aM Dc/\aZ 49/\aM Dc/\bP Dc qD0/\aM iW/\dX Dc iW)/\(decide ((↑De.length:Int)>0)=true/\(aZ 1/\aM De/\aZ 43/\aM De/\bP De qD0/\aM aiL/\dX De aiL)/\xc aqg aqh/\aZ 1/\aM De/\aZ 49/\aM De/\bP De qD0/\aM iW/\dX De iW)/\(decide ((↑Df.length:Int)>0)=true/\(aZ 1/\aM Df/\aZ 45/\aM Df/\bP Df qD0/\aM aiM/\dX Df aiM)/\xw aqi aqj/\aZ 1/\aM Df/\aZ 49/\aM Df/\bP Df qD0/\aM iW/\dX Df iW)/\(decide ((↑qD0.length:Int)>0)=true/\(aZ 1/\aM qD0/\aZ 47/\aM qD0/\bP qD0 qD0/\aM aiN/\dX qD0 aiN)/\(((↑acn.length:Int)==0)=false/\((↑([]:List Int).length:Int)==0)=true)/\aZ 1/\aM qD0/\aZ 49/\aM qD0/\bP qD0 qD0/\aM iW/\dX qD0 iW)/\decide ((↑([]:List Int).length:Int)>0)=false)
def as6 (z:Int):AV:=(AV.agg [AV.bool true false,AV.lslice 1 (↑acn.length:Int)])
def as7 (z:Int):Hp:=⟨[{ wr:=1645,body:=ABody.rows i64 acn },{ wr:=(0:Nat),body:=ABody.rows i64 Fe }],2,1770⟩
theorem a1 (z:Int):(run (acl 1726 110 0) 2000).call 48 [.int false .i64 1,.int false .i64 7,.agg [.bool false false,.lslice 0 5]] ⟨[⟨0,.rows .i64 Fe⟩],1,1⟩=some ⟨.p (aco z),[⟨.tt,as6 z,as7 z⟩]⟩:=by kernel_rfl
def acp (z:Int):Prop:=(aZ 0/\(aZ 3/\(5:Int)=5/\aZ 79/\(5:Int)=5/\(((5:Int)=(↑Fe.length:Int)/\(↑QR.length:Int)=(↑QR.length:Int))/\okL false Fe/\okL false QR/\Fe.length+QR.length<=(500000:Nat))/\aM aiO/\dX aqk aiO)/\(decide ((↑Dh.length:Int)>0)=true/\(aZ 1/\aM Dh/\aZ 1/\aM Dh/\bP Dh qD0/\aM qD0/\dX Dh qD0)/\((↑([]:List Int).length:Int)==0)=true/\aZ 9/\aM Dh/\aZ 6241/\aM Dh/\bP Dh xy/\aM jC/\dX aql jC)/\(decide ((↑FX.length:Int)>0)=true/\(aZ 1/\aM FX/\aZ 3/\aM FX/\bP FX qD0/\aM QR/\dX FX QR)/\xc Dh aqm/\aZ 9/\aM FX/\aZ 6241/\aM FX/\bP FX xy/\aM jC/\dX aqn jC)/\(decide ((↑FY.length:Int)>0)=true/\(aZ 1/\aM FY/\aZ 5/\aM FY/\bP FY qD0/\aM ahk/\dX FY ahk)/\xw aqo aqp/\aZ 9/\aM FY/\aZ 6241/\aM FY/\bP FY xy/\aM jC/\dX aqr jC)/\(decide ((↑FZ.length:Int)>0)=true/\(aZ 1/\aM FZ/\aZ 7/\aM FZ/\bP FZ qD0/\aM Xt/\dX FZ Xt)/\xc aqs aqt/\aZ 9/\aM FZ/\aZ 6241/\aM FZ/\bP FZ xy/\aM jC/\dX aqu jC)/\(decide ((↑F3.length:Int)>0)=true/\(aZ 1/\aM F3/\aZ 9/\aM F3/\bP F3 qD0/\aM xy/\dX F3 xy)/\xw aqv aqw/\aZ 9/\aM F3/\aZ 6241/\aM F3/\bP F3 xy/\aM jC/\dX aqx jC)/\(decide ((↑F4.length:Int)>0)=true/\(aZ 1/\aM F4/\aZ 11/\aM F4/\bP F4 qD0/\aM ahl/\dX F4 ahl)/\xc aqy aqz/\aZ 9/\aM F4/\aZ 6241/\aM F4/\bP F4 xy/\aM jC/\dX aqA jC)/\(decide ((↑F5.length:Int)>0)=true/\(aZ 1/\aM F5/\aZ 13/\aM F5/\bP F5 qD0/\aM ahm/\dX F5 ahm)/\xw aqB aqC/\aZ 9/\aM F5/\aZ 6241/\aM F5/\bP F5 xy/\aM jC/\dX aqD jC)/\(decide ((↑F6.length:Int)>0)=true/\(aZ 1/\aM F6/\aZ 15/\aM F6/\bP F6 qD0/\aM ahn/\dX F6 ahn)/\xc aqE aqF/\aZ 9/\aM F6/\aZ 6241/\aM F6/\bP F6 xy/\aM jC/\dX aqG jC)/\(decide ((↑F7.length:Int)>0)=true/\(aZ 1/\aM F7/\aZ 17/\aM F7/\bP F7 qD0/\aM aho/\dX F7 aho)/\xw aqH aqI/\aZ 9/\aM F7/\aZ 6241/\aM F7/\bP F7 xy/\aM jC/\dX aqJ jC)/\(decide ((↑F8.length:Int)>0)=true/\(aZ 1/\aM F8/\aZ 19/\aM F8/\bP F8 qD0/\aM ahp/\dX F8 ahp)/\xc aqK aqL/\aZ 9/\aM F8/\aZ 6241/\aM F8/\bP F8 xy/\aM jC/\dX aqM jC)/\(decide ((↑F9.length:Int)>0)=true/\(aZ 1/\aM F9/\aZ 21/\aM F9/\bP F9 qD0/\aM ahq/\dX F9 ahq)/\xw aqN aqO/\aZ 9/\aM F9/\aZ 6241/\aM F9/\bP F9 xy/\aM jC/\dX aqP jC)/\(decide ((↑Ga.length:Int)>0)=true/\(aZ 1/\aM Ga/\aZ 23/\aM Ga/\bP Ga qD0/\aM ahr/\dX Ga ahr)/\xc aqQ aqR/\aZ 9/\aM Ga/\aZ 6241/\aM Ga/\bP Ga xy/\aM jC/\dX aqS jC)/\(decide ((↑Gb.length:Int)>0)=true/\(aZ 1/\aM Gb/\aZ 25/\aM Gb/\bP Gb qD0/\aM ahs/\dX Gb ahs)/\xw aqT aqU/\aZ 9/\aM Gb/\aZ 6241/\aM Gb/\bP Gb xy/\aM jC/\dX aqV jC)/\(decide ((↑Gc.length:Int)>0)=true/\(aZ 1/\aM Gc/\aZ 27/\aM Gc/\bP Gc qD0/\aM aht/\dX Gc aht)/\xc aqW qD0/\aZ 9/\aM Gc/\aZ 6241/\aM Gc/\bP Gc xy/\aM jC/\dX aqX jC)/\decide ((↑([]:List Int).length:Int)>0)=false)
def as8 (z:Int):AV:=(AV.agg [AV.bool true false,AV.lslice 1 (↑aiP.length:Int)])
def as9 (z:Int):Hp:=⟨[{ wr:=1006,body:=ABody.rows i64 aiP },{ wr:=(0:Nat),body:=ABody.rows i64 Fe }],2,1046⟩
theorem a2 (z:Int):(run (acl 1017 110 0) 2000).call 48 [.int false .i64 3,.int false .i64 79,.agg [.bool false false,.lslice 0 5]] ⟨[⟨0,.rows .i64 Fe⟩],1,1⟩=some ⟨.p (acp z),[⟨.tt,as8 z,as9 z⟩]⟩:=by kernel_rfl
theorem amZ (z:Int):Tg z:=by
 unfold Tg
 repeat' first|with_reducible refine And.intro ?_ ?_|exact acm (by decide)|exact S9 _|exact Ta rfl|exact Tc rfl|exact Te rfl|exact Tf rfl|rfl|exact (oC rfl).1|decide
theorem aq0 (z:Int):aco z:=by
 unfold aco
 repeat' first|with_reducible refine And.intro ?_ ?_|exact acm (by decide)|exact S9 _|exact Ta rfl|exact Tc rfl|exact Te rfl|exact Tf rfl|rfl|exact (oC rfl).1|decide
theorem aq1 (z:Int):acp z:=by
 unfold acp
 repeat' first|with_reducible refine And.intro ?_ ?_|exact acm (by decide)|exact S9 _|exact Ta rfl|exact Tc rfl|exact Te rfl|exact Tf rfl|rfl|exact (oC rfl).1|decide
end
end Go.Proofs.YtbiiiloimbjpaaaGreatDoor.K
namespace Go.Proofs.YtbiiiloimbjpaaaGreatDoor.K
open Go Go.Eng Go.Dg Go.Ar Go.Vc
noncomputable section
def aW:Int:=10000000000000000000000000000000000000000
def tT:Int:=1418970546041639228128516171025530830078
def tV:Int:=379564451883143477757013801535551530053
theorem QS:aA aW.natAbs=[0,0,0,0,10000]:=kF (l:=[0,0,0,0,10000]) (oC rfl).1.1 (oC rfl).1.2.1
theorem Xu:aA tT.natAbs=[530830078,516171025,639228128,970546041,1418]:=kF (l:=[530830078,516171025,639228128,970546041,1418]) (oC rfl).1.1 (oC rfl).1.2.1
theorem Xv:aA tV.natAbs=[551530053,13801535,143477757,564451883,379]:=kF (l:=[551530053,13801535,143477757,564451883,379]) (oC rfl).1.1 (oC rfl).1.2.1
def am0:List Nu->List (List Int)->Option (Prop×To)
 | [.n n],[]=>some (n=40,lgT false aW)
 | _,_=>none
def acr:List Nu->List (List Int)->Option (Prop×To)
 | [.n p,.n q,.t b],[a]=>some (((p=1/\q=7)\/(p=3/\q=79))/\b=false/\a=[0,0,0,0,10000],lgT false (bif p==1 then tT else tV))
 | _,_=>none
theorem acs:NOk Tryz.prog (fun _=>none) hG0 45 (bQ hG0 .i64 [.nu (.i .i64)] am0):=by
 refine fw (fun xs ys p t e h=>?_) ⟨_,Tryz.func45,rfl⟩;unfold am0 at e;split at e
 .cases e;subst h;refine ⟨cCl,900,[.int false .i64 40],_,_,_,_,_,ack,rfl,rfl,⟨⟨rfl,rfl⟩,trivial⟩,qpw 0,rfl,amZ 0,rfl,rfl,⟨rfl,rfl,?_⟩⟩;exact QS.symm
 .cases e
theorem ahu:NOk Tryz.prog (fun _=>none) hG0 48 (bQ hG0 .i64 [.nu (.i .i64),.nu (.i .i64),.st [.nu .b,.li]] acr):=by
 refine fw (fun xs ys p t e h=>?_) ⟨_,Tryz.func48,rfl⟩;unfold acr at e;split at e
 .cases e;obtain ⟨⟨rfl,rfl⟩|⟨rfl,rfl⟩,rfl,rfl⟩:=h
  .refine ⟨acl 1726 110 0,2000,[.int false .i64 1,.int false .i64 7,.agg [.bool false false,.lslice 0 5]],_,_,_,_,_,Vd _ _ _,rfl,rfl,⟨⟨rfl,rfl⟩,⟨rfl,rfl⟩,⟨rfl,rfl,trivial⟩,trivial⟩,a1 0,rfl,aq0 0,rfl,rfl,⟨rfl,rfl,?_⟩⟩;exact Xu.symm
  .refine ⟨acl 1017 110 0,2000,[.int false .i64 3,.int false .i64 79,.agg [.bool false false,.lslice 0 5]],_,_,_,_,_,Vd _ _ _,rfl,rfl,⟨⟨rfl,rfl⟩,⟨rfl,rfl⟩,⟨rfl,rfl,trivial⟩,trivial⟩,a2 0,rfl,aq1 0,rfl,rfl,⟨rfl,rfl,?_⟩⟩;exact Xv.symm
 .cases e
def tRs:List (FuncId×ku):=
 (53,bQ hG0 .i64 psA dfV) ::
 (47,bQ hG0 .i64 psA ag7) ::
 (81,bQ hG0 .i64 psA ptV) ::
 (49,bQ hG0 .i64 [.nu (.i .i64)] ofV) ::
 (78,bQ hG0 .i64 [.st [.nu .b,.li]] miV) :: []
theorem acu:∀ x∈tRs,NOk Tryz.prog (fun _=>none) hG0 x.1 x.2:=by
 intro x a;simp only [tRs,aN,eX,eY] at a;rcases a with rfl|rfl|rfl|rfl|rfl
 .exact Jq
 .exact U9
 .exact QQ
 .exact U8
 .exact Jp
noncomputable def am1:Ctx:=mkN Tryz.prog (fun _=>none) hG0 tRs [] lw
theorem ahv:CtxOk am1:=mf prog_ok (iY _) acu (fun x h=>by cases h)
def paC (p q r:Bool) (a b c:List Int):Prop:=okL p a/\okL q b/\okL r c/\c≠[]/\a.length+b.length+c.length<=300000
def partV:List Nu->List (List Int)->Option (Prop×To)
 | [.t p,.t q,.t r],[a,b,c]=>some (paC p q r a b c,lgT false ((zv p a*zv q b).tdiv (zv r c)))
 | _,_=>none
def acv (p q r:Bool) (a b c:List Int):List AV:=[.agg [.bool true p,.lslice 0 a.length],.agg [.bool true q,.lslice 1 b.length],.agg [.bool true r,.lslice 2 c.length]]
def ptH (a b c:List Int):Hp:=iZ true hG0 [(.i64,a),(.i64,b),(.i64,c)]
end
end Go.Proofs.YtbiiiloimbjpaaaGreatDoor.K
namespace Go.Proofs.YtbiiiloimbjpaaaGreatDoor.K
open Go Go.Eng Go.Dg
noncomputable section
def ahw (p q r:Bool) (a b c:List Int):Prop:=((((↑a.length:Int)=(↑a.length:Int)/\(↑b.length:Int)=(↑b.length:Int))/\okL p a/\okL q b/\a.length+b.length<=(500000:Nat))/\(r=r/\(↑c.length:Int)=(↑c.length:Int))/\((↑(aA (zv p a*zv q b).natAbs).length:Int)=(↑(aA (zv p a*zv q b).natAbs).length:Int)/\(↑c.length:Int)=(↑c.length:Int))/\okL (decide (zv p a*zv q b<0)) (aA (zv p a*zv q b).natAbs)/\okL r c/\c≠[]/\(aA (zv p a*zv q b).natAbs).length+c.length<=(400000:Nat))
def am2 (p q r:Bool) (a b c:List Int):AV:=(AV.agg [AV.bool true (decide ((zv (decide (zv p a*zv q b<0)) (aA (zv p a*zv q b).natAbs)).tdiv (zv r c)<0)),AV.lslice 3 (↑(aA ((zv (decide (zv p a*zv q b<0)) (aA (zv p a*zv q b).natAbs)).tdiv (zv r c)).natAbs).length:Int)])
def am3 (p q r:Bool) (a b c:List Int):Hp:=⟨[{ wr:=11,body:=ABody.rows i64 (aA ((zv (decide (zv p a*zv q b<0)) (aA (zv p a*zv q b).natAbs)).tdiv (zv r c)).natAbs) },{ wr:=(0:Nat),body:=ABody.rows i64 c },{ wr:=(0:Nat),body:=ABody.rows i64 b },{ wr:=(0:Nat),body:=ABody.rows i64 a }],4,20⟩
theorem ata (p q r:Bool) (a b c:List Int):(run am1 300).call 51 (acv p q r a b c) (ptH a b c)=some ⟨.p (ahw p q r a b c),[⟨.tt,am2 p q r a b c,am3 p q r a b c⟩]⟩:=by kernel_rfl
end
end Go.Proofs.YtbiiiloimbjpaaaGreatDoor.K
namespace Go.Proofs.YtbiiiloimbjpaaaGreatDoor.K
open Go Go.Eng Go.Dg Go.Ar Go.Vc
noncomputable section
theorem Xw {x y:Int} {m n:Nat} (a:(x.natAbs:Int)<pw m) (b:(y.natAbs:Int)<pw n):((x*y).natAbs:Int)<pw (m+n):=by
 have e:pw (m+n)=pw m*pw n:=by
  clear a b
  induction m with
  | zero=>simp [pw]
  | succ m c=>rw [Nat.add_right_comm,oo,oo,c,dM]
 rw [e,D5];push_cast;have q:=pw_pos n;exact oL (bq (fK b) (by omega)) (JM a q)
theorem acw:NOk Tryz.prog (fun _=>none) hG0 51 (bQ hG0 .i64 [.st [.nu .b,.li],.st [.nu .b,.li],.st [.nu .b,.li]] partV):=by
 refine fw (fun xs ys p t e h=>?_) ⟨_,Tryz.func51,rfl⟩;unfold partV at e;split at e
 .rename_i p q r a b c;cases e;obtain ⟨ha,hb,d,f,i⟩:=h;have l1:=UM ha;have l2:=UM hb;have l3:=Xw l1 l2;have j:=gF (show a.length+b.length<=500000 by omega);have k:(aA (zv p a*zv q b).natAbs).length<=a.length+b.length:=lL l3;have g:okL (decide (zv p a*zv q b<0)) (aA (zv p a*zv q b).natAbs):=yB (by omega);refine ⟨am1,300,acv p q r a b c,_,_,_,_,_,ahv,rfl,rfl,⟨⟨rfl,rfl,trivial⟩,⟨rfl,rfl,trivial⟩,⟨rfl,rfl,trivial⟩,trivial⟩,ata p q r a b c,rfl,⟨⟨⟨rfl,rfl⟩,ha,hb,by omega⟩,⟨rfl,rfl⟩,⟨rfl,rfl⟩,g,d,f,by omega⟩,rfl,rfl,⟨?_,?_,?_⟩⟩
  .show decide ((zv (decide (zv p a*zv q b<0)) (aA (zv p a*zv q b).natAbs)).tdiv (zv r c)<0)=_;rw [qc]
  .show ((aA ((zv (decide (zv p a*zv q b<0)) (aA (zv p a*zv q b).natAbs)).tdiv (zv r c)).natAbs).length:Int)=_;rw [qc]
  .show aA ((zv (decide (zv p a*zv q b<0)) (aA (zv p a*zv q b).natAbs)).tdiv (zv r c)).natAbs=_;rw [qc]
 .cases e
def tRp:List (FuncId×ku):=(51,bQ hG0 .i64 [.st [.nu .b,.li],.st [.nu .b,.li],.st [.nu .b,.li]] partV) :: tRs
def tRq:List (FuncId×ku):=(46,bQ hG0 .i64 psA agZ) :: tRp
theorem acx:∀ x∈tRp,NOk Tryz.prog (fun _=>none) hG0 x.1 x.2:=by
 intro x a;rcases aN.1 a with rfl|a
 .exact acw
 .exact acu x a
theorem acy:∀ x∈tRq,NOk Tryz.prog (fun _=>none) hG0 x.1 x.2:=by
 intro x a;rcases aN.1 a with rfl|a
 .exact sum_ok
 .exact acx x a
noncomputable def aq2:Ctx:=mkN Tryz.prog (fun _=>none) hG0 tRp [] lw
noncomputable def Xx:Ctx:=mkN Tryz.prog (fun _=>none) hG0 tRq [] lw
theorem ahx:CtxOk aq2:=mf prog_ok (iY _) acx (fun x h=>by cases h)
theorem GJ:CtxOk Xx:=mf prog_ok (iY _) acy (fun x h=>by cases h)
noncomputable def cRu:Ctx:=eZ Xx (mi [(13,.bool false true)])
noncomputable def cRl:Ctx:=eZ aq2 (mi [(13,.bool false true),(12,.bool false false),(17,.bool false true)])
noncomputable def cRe:Ctx:=eZ Xx (mi [(13,.bool false false)])
theorem acz:CtxOk cRu:=bW GJ _
theorem am4:CtxOk cRl:=bW ahx _
theorem am5:CtxOk cRe:=bW GJ _
def Ti (a b:List Int):List AV:=[.agg [.bool true false,.lslice 0 a.length],.agg [.bool true false,.lslice 1 b.length]]
def rnH (a b:List Int):Hp:=iZ true hG0 [(.i64,a),(.i64,b)]
def QT:AFr:=⟨50,none⟩
noncomputable def rnA:Code:=fP Tryz.prog 50 0
noncomputable def rnS (a b:List Int):St:=qM Xx 300 50 (Ti a b) (rnH a b)
end
end Go.Proofs.YtbiiiloimbjpaaaGreatDoor.K
namespace Go.Dg
open Go Go.Eng
def Zv (z:Int):Int:=zv (decide (z<0)) (aA z.natAbs)
theorem gY (z:Int):Zv z=z:=qc z
def xz (v:Int) (a b:List Int):Int:=(v*zv false a).tdiv (zv false b)
def vO (v:Int) (a b:List Int):Int:=(Zv (xz v a b)*zv false a).tdiv (zv false b)
def jA (v:Int) (a b:List Int):Int:=-Zv (vO v a b)
def kI (v:Int) (a b:List Int) (k:Int):Int:=(Zv (jA v a b)*Zv 1).tdiv (Zv k)
def rqk (i:Int):Int:=i64.wrap (i*i64.wrap (i+1))
def rT (a b:List Int) (i t:Int):Int:=kI (Zv t) a b (rqk i)
def rT0 (a b:List Int):Int:=kI (zv false a) a b (rqk 2)
def rnT (y w i t:Int):Int:=(-(((t*y).tdiv w)*y).tdiv w).tdiv (i*(i+1))
def rnN (y w:Int):Nat->Int->Int->Int->Int
 | 0,_,_,s=>s
 | n+1,i,t,s=>match decide (rnT y w i t=0) with
  | true=>s
  | false=>rnN y w n (i+2) (rnT y w i t) (s+rnT y w i t)
theorem Vf {y w:Int} {n:Nat} {i t s:Int} (h:rnT y w i t=0):rnN y w (n+1) i t s=s:=by rw [rnN,aI h]
theorem Js {y w:Int} {n:Nat} {i t s:Int} (h:rnT y w i t≠0):rnN y w (n+1) i t s=rnN y w n (i+2) (rnT y w i t) (s+rnT y w i t):=by rw [rnN,aG h]
theorem Tj {i:Int} (f:2<=i) (h1:i<=400):rqk i=i*(i+1):=by have e:i*(i+1)<=400*401:=bC (a:=i) (b:=i+1) (c:=400) (d:=401) h1 (by omega) (by omega) (by decide);have g:2*3<=i*(i+1):=bC (a:=2) (b:=3) (c:=i) (d:=i+1) f (by omega) (by decide) (by omega);unfold rqk;rw [show i64.wrap (i+1)=i+1 from iw (by omega) (by omega),iw (by omega) (by omega)]
theorem Vg {v k:Int} {a b:List Int}:kI v a b k=(-(((v*val a).tdiv (val b))*val a).tdiv (val b)).tdiv k:=by unfold kI jA vO xz;simp only [gY,kW];rfl
theorem Vh {a b:List Int} {i t:Int} (c:2<=i) (h1:i<=400):rT a b i t=rnT (val a) (val b) i t:=by unfold rT rnT;rw [Vg,Tj c h1,gY]
theorem NI {a b:List Int}:rT0 a b=rnT (val a) (val b) 2 (val a):=by unfold rT0 rnT;rw [Vg,Tj (by decide) (by decide)];rfl
theorem QU {x w c d n:Int} (a:0<w) (hd:0<d) (h:d*(x.natAbs:Int)<=c*n*w) (f:0<=c*n):d*((x.tdiv w).natAbs:Int)<=c*n:=by
 rw [Int.natAbs_tdiv];show d*((x.natAbs / w.natAbs:Nat):Int)<=c*n;have e:((x.natAbs / w.natAbs:Nat):Int)=(x.natAbs:Int) / w:=by push_cast;rw [kN (show 0<=w by omega)]
 rw [e];have h1:=oP (x.natAbs:Int) (b:=w) (by omega);refine Int.le_of_mul_le_mul_right ?_ a;have:=bq h1 (show 0<=d by omega);rw [dM];omega
theorem Vi {v y w:Int} (b:0<=y) (c:0<w) (a:5*y<=8*w):5*(((v*y).tdiv w).natAbs:Int)<=8*v.natAbs:=by refine QU c (by decide) ?_ (by omega);rw [D5];push_cast;rw [kN b];have:=bq a (show 0<=(v.natAbs:Int) by omega);grind
theorem acA {v y w i:Int} (h:0<=y) (j:0<w) (f:5*y<=8*w) (hi:2<=i):2*((rnT y w i v).natAbs:Int)<=v.natAbs:=by
 have k:=Vi (v:=v) h j f;have l:=Vi (v:=(v*y).tdiv w) h j f;have g:6<=i*(i+1):=bC (a:=2) (b:=3) (c:=i) (d:=i+1) hi (by omega) (by decide) (by omega);unfold rnT;have e:((-(((v*y).tdiv w)*y).tdiv w).natAbs:Int)=(((((v*y).tdiv w)*y).tdiv w).natAbs:Int):=by rw [Int.natAbs_neg]
 have:=QU (x:=-(((v*y).tdiv w)*y).tdiv w) (w:=i*(i+1)) (c:=1) (d:=2) (n:=v.natAbs) (by omega) (by decide) (by rw [e];have:=bq g (show 0<=(v.natAbs:Int) by omega);grind) (by omega);omega
end Go.Dg
namespace Go.Proofs.YtbiiiloimbjpaaaGreatDoor.K
open Go Go.Eng Go.Dg Go.Ar Go.Vc
noncomputable section
inductive RnS where
 | a0
 | am (i t s:Int) (z:Bool)
 | ad (i t s:Int)
def rnP:RnS->Patch
 | .a0=>⟨(7,.int true .i64 2) :: bS 10 26,[],[]⟩
 | .am i t s _=>⟨(7,.int true .i64 i) :: bS 10 26,[(5,.cells (lgA 8 s)),(6,.cells (lgA 7 t))],[.rows .i64 (aA s.natAbs),.rows .i64 (aA t.natAbs)]⟩
 | .ad i t s=>⟨(7,.int true .i64 i) :: bS 10 26,[(5,.cells (lgA 7 s)),(6,.cells (lgA 8 t))],[.rows .i64 (aA t.natAbs),.rows .i64 (aA s.natAbs)]⟩
def rnX (s:Int):Patch:=⟨(7,.any false) :: bS 10 26,[(5,.cells (lgA 7 s)),(6,.dead)],[.dead,.rows .i64 (aA s.natAbs)]⟩
def rnR (a b:List Int):RnS->Int
 | .a0=>rnN (val a) (val b) 200 2 (val a) (val a)
 | .am i t s _=>rnN (val a) (val b) (201 - (i / 2).toNat) i t s
 | .ad _ _ s=>s
def rnU (a b:List Int):SumL RnS:=
 {
  S:=rnP
  I:=fun x=>match x with
   | .a0=>True
   | .am i t s z=>z=decide (rT a b i t=0)/\t≠0/\i % 2=0/\2<i/\i<=300/\2 ^ (i / 2).toNat*t.natAbs<=4*aW/\0<s/\s+t.natAbs<=4*aW/\t.natAbs<=s
   | .ad i t s=>t=0/\0<s/\s<=4*aW
  μ:=fun x=>match x with
   | .a0=>800
   | .am i _ _ _=>(400 - i).toNat+1
   | .ad _ _ _=>0
  F:=fun x=>(.exit 0,rnX (rnR a b x))
  next:=fun x=>match x with
   | .a0=>.am 4 (rT0 a b) (zv false a+Zv (rT0 a b)) (decide (rT a b 4 (rT0 a b)=0))
   | .am i t s true=>.ad (i+2) (rT a b i t) s
   | .am i t s false=>.am (i+2) (rT a b i t) (Zv s+Zv (rT a b i t)) (decide (rT a b (i+2) (rT a b i t)=0))
   | .ad i t s=>.ad i t s
  ids:=fun x=>match x with
   | .a0=>[12,13]
   | .am _ _ _ true=>[8,14]
   | .am _ _ _ false=>[14,15]
   | .ad _ _ _=>[7,8]
  X:=fun x _=>match x with
   | .ad _ _ s=>some (rnX s,[7,8])
   | _=>none }
end
end Go.Proofs.YtbiiiloimbjpaaaGreatDoor.K
namespace Go.Proofs.YtbiiiloimbjpaaaGreatDoor.K
open Go Go.Eng Go.Dg
noncomputable section
def QV (a b:List Int):Prop:=(2:Int)=2
theorem acB (a b:List Int):fit (rnS a b) (rnS a b) (aJ (rnS a b) ((rnU a b).S .a0)) ([])=some (.p (QV a b)):=by kernel_rfl
def acC (a b:List Int):Prop:=(decide ((↑a.length:Int)>0)=true/\((((↑a.length:Int)=(↑a.length:Int)/\(↑a.length:Int)=(↑a.length:Int)/\(↑b.length:Int)=(↑b.length:Int))/\paC false false false a a b)/\((false=false/\(↑b.length:Int)=(↑b.length:Int))/\false=false/\(↑a.length:Int)=(↑a.length:Int))/\(((↑(aA (xz (zv false a) a b).natAbs).length:Int)=(↑(aA (xz (zv false a) a b).natAbs).length:Int)/\(↑a.length:Int)=(↑a.length:Int)/\(↑b.length:Int)=(↑b.length:Int))/\paC (decide (xz (zv false a) a b<0)) false false (aA (xz (zv false a) a b).natAbs) a b)/\(↑(aA (vO (zv false a) a b).natAbs).length:Int)=(↑(aA (vO (zv false a) a b).natAbs).length:Int)/\okL (decide (vO (zv false a) a b<0)) (aA (vO (zv false a) a b).natAbs))/\(Int.natAbs (1:Int)<=(9223372036854775808:Nat)/\(decide (jA (zv false a) a b<0)=decide (jA (zv false a) a b<0)/\(↑(aA (jA (zv false a) a b).natAbs).length:Int)=(↑(aA (jA (zv false a) a b).natAbs).length:Int))/\(i64.wrap ((2:Int)*i64.wrap ((2:Int)+1))).natAbs<=(9223372036854775808:Nat)/\(decide (jA (zv false a) a b<0)=decide (jA (zv false a) a b<0)/\(↑(aA (jA (zv false a) a b).natAbs).length:Int)=(↑(aA (jA (zv false a) a b).natAbs).length:Int))/\((↑(aA (jA (zv false a) a b).natAbs).length:Int)=(↑(aA (jA (zv false a) a b).natAbs).length:Int)/\(↑(aA (Int.natAbs (1:Int))).length:Int)=(↑(aA (Int.natAbs (1:Int))).length:Int)/\(↑(aA (i64.wrap ((2:Int)*i64.wrap ((2:Int)+1))).natAbs).length:Int)=(↑(aA (i64.wrap ((2:Int)*i64.wrap ((2:Int)+1))).natAbs).length:Int))/\paC (decide (jA (zv false a) a b<0)) (decide ((1:Int)<0)) (decide (i64.wrap ((2:Int)*i64.wrap ((2:Int)+1))<0)) (aA (jA (zv false a) a b).natAbs) (aA (Int.natAbs (1:Int))) (aA (i64.wrap ((2:Int)*i64.wrap ((2:Int)+1))).natAbs))/\((↑a.length:Int)=(↑a.length:Int)/\(↑(aA (kI (zv false a) a b (rqk 2)).natAbs).length:Int)=(↑(aA (kI (zv false a) a b (rqk 2)).natAbs).length:Int))/\okL false a/\okL (decide (kI (zv false a) a b (rqk 2)<0)) (aA (kI (zv false a) a b (rqk 2)).natAbs)/\a≠[]/\aA (kI (zv false a) a b (rqk 2)).natAbs≠[]/\val a+val (aA (kI (zv false a) a b (rqk 2)).natAbs)<pw (400000:Nat))/\(true=true->(i64.wrap ((2:Int)+2)=4/\((decide (kI (zv false a) a b (rqk 2)<0)=decide (rT0 a b<0)/\(↑(aA (kI (zv false a) a b (rqk 2)).natAbs).length:Int)=(↑(aA (rT0 a b).natAbs).length:Int))/\decide (zv false a+zv (decide (kI (zv false a) a b (rqk 2)<0)) (aA (kI (zv false a) a b (rqk 2)).natAbs)<0)=decide (zv false a+Zv (rT0 a b)<0)/\(↑(aA (zv false a+zv (decide (kI (zv false a) a b (rqk 2)<0)) (aA (kI (zv false a) a b (rqk 2)).natAbs)).natAbs).length:Int)=(↑(aA (zv false a+Zv (rT0 a b)).natAbs).length:Int))/\aA (zv false a+zv (decide (kI (zv false a) a b (rqk 2)<0)) (aA (kI (zv false a) a b (rqk 2)).natAbs)).natAbs=aA (zv false a+Zv (rT0 a b)).natAbs/\aA (kI (zv false a) a b (rqk 2)).natAbs=aA (rT0 a b).natAbs)/\(rnU a b).I ((rnU a b).next RnS.a0)/\(rnU a b).μ ((rnU a b).next RnS.a0)<(rnU a b).μ RnS.a0/\(rnU a b).F ((rnU a b).next RnS.a0)=(rnU a b).F RnS.a0)
theorem aq3 (a b:List Int):dQ (rnS a b) ((rnU a b).way (.a0)) ((run cRu 300).code QT rnA (aJ (rnS a b) ((rnU a b).S .a0)))=some (.p (acC a b)):=by kernel_rfl
def acD (a b:List Int) (i t s:Int):Prop:=(decide ((↑(aA t.natAbs).length:Int)>0)=true/\((((↑(aA t.natAbs).length:Int)=(↑(aA t.natAbs).length:Int)/\(↑a.length:Int)=(↑a.length:Int)/\(↑b.length:Int)=(↑b.length:Int))/\paC (decide (t<0)) false false (aA t.natAbs) a b)/\((false=false/\(↑b.length:Int)=(↑b.length:Int))/\false=false/\(↑a.length:Int)=(↑a.length:Int))/\(((↑(aA (xz (Zv t) a b).natAbs).length:Int)=(↑(aA (xz (Zv t) a b).natAbs).length:Int)/\(↑a.length:Int)=(↑a.length:Int)/\(↑b.length:Int)=(↑b.length:Int))/\paC (decide (xz (Zv t) a b<0)) false false (aA (xz (Zv t) a b).natAbs) a b)/\(↑(aA (vO (Zv t) a b).natAbs).length:Int)=(↑(aA (vO (Zv t) a b).natAbs).length:Int)/\okL (decide (vO (Zv t) a b<0)) (aA (vO (Zv t) a b).natAbs))/\(Int.natAbs (1:Int)<=(9223372036854775808:Nat)/\(decide (jA (Zv t) a b<0)=decide (jA (Zv t) a b<0)/\(↑(aA (jA (Zv t) a b).natAbs).length:Int)=(↑(aA (jA (Zv t) a b).natAbs).length:Int))/\(i64.wrap (i*i64.wrap (i+1))).natAbs<=(9223372036854775808:Nat)/\(decide (jA (Zv t) a b<0)=decide (jA (Zv t) a b<0)/\(↑(aA (jA (Zv t) a b).natAbs).length:Int)=(↑(aA (jA (Zv t) a b).natAbs).length:Int))/\((↑(aA (jA (Zv t) a b).natAbs).length:Int)=(↑(aA (jA (Zv t) a b).natAbs).length:Int)/\(↑(aA (Int.natAbs (1:Int))).length:Int)=(↑(aA (Int.natAbs (1:Int))).length:Int)/\(↑(aA (i64.wrap (i*i64.wrap (i+1))).natAbs).length:Int)=(↑(aA (i64.wrap (i*i64.wrap (i+1))).natAbs).length:Int))/\paC (decide (jA (Zv t) a b<0)) (decide ((1:Int)<0)) (decide (i64.wrap (i*i64.wrap (i+1))<0)) (aA (jA (Zv t) a b).natAbs) (aA (Int.natAbs (1:Int))) (aA (i64.wrap (i*i64.wrap (i+1))).natAbs))/\((↑(aA s.natAbs).length:Int)=(↑(aA s.natAbs).length:Int)/\(↑(aA (kI (Zv t) a b (rqk i)).natAbs).length:Int)=(↑(aA (kI (Zv t) a b (rqk i)).natAbs).length:Int))/\okL (decide (s<0)) (aA s.natAbs)/\okL (decide (kI (Zv t) a b (rqk i)<0)) (aA (kI (Zv t) a b (rqk i)).natAbs)/\aA s.natAbs≠[]/\aA (kI (Zv t) a b (rqk i)).natAbs≠[]/\val (aA s.natAbs)+val (aA (kI (Zv t) a b (rqk i)).natAbs)<pw (400000:Nat))/\(true=true->(i64.wrap (i+2)=i+2/\((decide (kI (Zv t) a b (rqk i)<0)=decide (rT a b i t<0)/\(↑(aA (kI (Zv t) a b (rqk i)).natAbs).length:Int)=(↑(aA (rT a b i t).natAbs).length:Int))/\decide (zv (decide (s<0)) (aA s.natAbs)+zv (decide (kI (Zv t) a b (rqk i)<0)) (aA (kI (Zv t) a b (rqk i)).natAbs)<0)=decide (Zv s+Zv (rT a b i t)<0)/\(↑(aA (zv (decide (s<0)) (aA s.natAbs)+zv (decide (kI (Zv t) a b (rqk i)<0)) (aA (kI (Zv t) a b (rqk i)).natAbs)).natAbs).length:Int)=(↑(aA (Zv s+Zv (rT a b i t)).natAbs).length:Int))/\aA (zv (decide (s<0)) (aA s.natAbs)+zv (decide (kI (Zv t) a b (rqk i)<0)) (aA (kI (Zv t) a b (rqk i)).natAbs)).natAbs=aA (Zv s+Zv (rT a b i t)).natAbs/\aA (kI (Zv t) a b (rqk i)).natAbs=aA (rT a b i t).natAbs)/\(rnU a b).I ((rnU a b).next (RnS.am i t s false))/\(rnU a b).μ ((rnU a b).next (RnS.am i t s false))<(rnU a b).μ (RnS.am i t s false)/\(rnU a b).F ((rnU a b).next (RnS.am i t s false))=(rnU a b).F (RnS.am i t s false))
theorem aq4 (a b:List Int) (i t s:Int):dQ (rnS a b) ((rnU a b).way ((.am i t s false))) ((run cRu 300).code QT rnA (aJ (rnS a b) ((rnU a b).S (.am i t s false))))=some (.p (acD a b i t s)):=by kernel_rfl
def acE (a b:List Int) (i t s:Int):Prop:=(decide ((↑(aA t.natAbs).length:Int)>0)=true/\((((↑(aA t.natAbs).length:Int)=(↑(aA t.natAbs).length:Int)/\(↑a.length:Int)=(↑a.length:Int)/\(↑b.length:Int)=(↑b.length:Int))/\paC (decide (t<0)) false false (aA t.natAbs) a b)/\((false=false/\(↑b.length:Int)=(↑b.length:Int))/\false=false/\(↑a.length:Int)=(↑a.length:Int))/\(((↑(aA (xz (Zv t) a b).natAbs).length:Int)=(↑(aA (xz (Zv t) a b).natAbs).length:Int)/\(↑a.length:Int)=(↑a.length:Int)/\(↑b.length:Int)=(↑b.length:Int))/\paC (decide (xz (Zv t) a b<0)) false false (aA (xz (Zv t) a b).natAbs) a b)/\(↑(aA (vO (Zv t) a b).natAbs).length:Int)=(↑(aA (vO (Zv t) a b).natAbs).length:Int)/\okL (decide (vO (Zv t) a b<0)) (aA (vO (Zv t) a b).natAbs))/\(Int.natAbs (1:Int)<=(9223372036854775808:Nat)/\(decide (jA (Zv t) a b<0)=decide (jA (Zv t) a b<0)/\(↑(aA (jA (Zv t) a b).natAbs).length:Int)=(↑(aA (jA (Zv t) a b).natAbs).length:Int))/\(i64.wrap (i*i64.wrap (i+1))).natAbs<=(9223372036854775808:Nat)/\(decide (jA (Zv t) a b<0)=decide (jA (Zv t) a b<0)/\(↑(aA (jA (Zv t) a b).natAbs).length:Int)=(↑(aA (jA (Zv t) a b).natAbs).length:Int))/\((↑(aA (jA (Zv t) a b).natAbs).length:Int)=(↑(aA (jA (Zv t) a b).natAbs).length:Int)/\(↑(aA (Int.natAbs (1:Int))).length:Int)=(↑(aA (Int.natAbs (1:Int))).length:Int)/\(↑(aA (i64.wrap (i*i64.wrap (i+1))).natAbs).length:Int)=(↑(aA (i64.wrap (i*i64.wrap (i+1))).natAbs).length:Int))/\paC (decide (jA (Zv t) a b<0)) (decide ((1:Int)<0)) (decide (i64.wrap (i*i64.wrap (i+1))<0)) (aA (jA (Zv t) a b).natAbs) (aA (Int.natAbs (1:Int))) (aA (i64.wrap (i*i64.wrap (i+1))).natAbs))/\((↑(aA s.natAbs).length:Int)==0)=false/\((↑(aA (kI (Zv t) a b (rqk i)).natAbs).length:Int)==0)=true)/\(true=true->(i64.wrap (i+2)=i+2/\((decide (kI (Zv t) a b (rqk i)<0)=decide (rT a b i t<0)/\(↑(aA (kI (Zv t) a b (rqk i)).natAbs).length:Int)=(↑(aA (rT a b i t).natAbs).length:Int))/\decide (s<0)=decide (s<0)/\(↑(aA s.natAbs).length:Int)=(↑(aA s.natAbs).length:Int))/\aA (kI (Zv t) a b (rqk i)).natAbs=aA (rT a b i t).natAbs/\aA s.natAbs=aA s.natAbs)/\(rnU a b).I ((rnU a b).next (RnS.am i t s true))/\(rnU a b).μ ((rnU a b).next (RnS.am i t s true))<(rnU a b).μ (RnS.am i t s true)/\(rnU a b).F ((rnU a b).next (RnS.am i t s true))=(rnU a b).F (RnS.am i t s true))
theorem aq5 (a b:List Int) (i t s:Int):dQ (rnS a b) ((rnU a b).way ((.am i t s true))) ((run cRl 300).code QT rnA (aJ (rnS a b) ((rnU a b).S (.am i t s true))))=some (.p (acE a b i t s)):=by kernel_rfl
def ahy (a b:List Int) (i t s:Int):Prop:=decide ((↑(aA t.natAbs).length:Int)>0)=false/\(true=true->((decide (s<0)=decide (s<0)/\(↑(aA s.natAbs).length:Int)=(↑(aA s.natAbs).length:Int))/\aA s.natAbs=aA s.natAbs)/\(rnU a b).F (RnS.ad i t s)=(Ex.exit (0:Nat),rnX s))
theorem atb (a b:List Int) (i t s:Int):dQ (rnS a b) ((rnU a b).way ((.ad i t s))) ((run cRe 300).code QT rnA (aJ (rnS a b) ((rnU a b).S (.ad i t s))))=some (.p (ahy a b i t s)):=by kernel_rfl
end
end Go.Proofs.YtbiiiloimbjpaaaGreatDoor.K
namespace Go.Proofs.YtbiiiloimbjpaaaGreatDoor.K
open Go Go.Eng Go.Dg Go.Ar Go.Vc
noncomputable section
structure RnD (a b:List Int):Prop where
 d:Dig a
 t:Top a
 l:a.length<=10
 e:b=[0,0,0,0,10000]
 v0:0<val a
 v1:5*val a<=8*aW
 t0:rT0 a b≠0
theorem GK:0<aW:=by decide
theorem RnD.w {a b:List Int} (h:RnD a b):val b=aW:=by rw [h.e];rfl
theorem okA {z:Int} (h:(z.natAbs:Int)<=100*aW):okL (decide (z<0)) (aA z.natAbs)/\(aA z.natAbs).length<=5:=by
 have a:100*aW<pw 5:=by decide
 have b:=gF (show 5<=500000 by omega);exact ⟨yB (uI (oL h a) b),lL (oL h a)⟩
theorem okK {i:Int} (f:2<=i) (h1:i<=400):okL (decide (rqk i<0)) (aA (rqk i).natAbs)/\(aA (rqk i).natAbs).length<=5/\aA (rqk i).natAbs≠[]/\(rqk i).natAbs<=9223372036854775808:=by
 have e:i*(i+1)<=400*401:=bC (a:=i) (b:=i+1) (c:=400) (d:=401) h1 (by omega) (by omega) (by decide);have g:2*3<=i*(i+1):=bC (a:=2) (b:=3) (c:=i) (d:=i+1) f (by omega) (by decide) (by omega);rw [Tj f h1];have e3:(1000000:Int)<=100*aW:=by decide
 obtain ⟨a,b⟩:=okA (z:=i*(i+1)) (by omega);refine ⟨a,b,fun h=>?_,by omega⟩;have:=wU (n:=(i*(i+1)).natAbs) (by omega);rw [h] at this;exact absurd this (by decide)
theorem aq6:okL (decide ((1:Int)<0)) (aA (Int.natAbs 1))/\(aA (Int.natAbs 1)).length<=5:=by
 have e3:(1:Int)<=100*aW:=by decide
 exact okA (z:=1) (by omega)
theorem aq7 {a b:List Int} (h:RnD a b) {p:Bool} {tl:List Int} (hp:okL p tl) (F:tl.length<=10) {v:Int} (H:zv p tl=v) (hb:(v.natAbs:Int)<=2*aW) {i:Int} (o:2<=i) (h1:i<=400):
  paC p false false tl a b/\paC (decide (xz v a b<0)) false false (aA (xz v a b).natAbs) a b/\okL (decide (vO v a b<0)) (aA (vO v a b).natAbs)/\paC (decide (jA v a b<0)) (decide ((1:Int)<0)) (decide (rqk i<0)) (aA (jA v a b).natAbs) (aA (Int.natAbs 1)) (aA (rqk i).natAbs):=by
 have q:=h.w;have f:=GK;have g:okL false a:=⟨h.d,h.t,fun h=>(by cases h),by have:=h.l;show a.length<=500000;omega⟩;have r:okL false b/\b≠[]/\b.length=5:=by rw [h.e];exact ⟨(oC rfl).1,(by decide),rfl⟩
 have I:=h.l;have J:=h.v0;have j:=h.v1;have k:(xz v a b)=(v*val a).tdiv (val b):=rfl;have K:=Vi (v:=v) (y:=val a) (w:=aW) (by omega) f j;have m:vO v a b=((v*val a).tdiv (val b)*val a).tdiv (val b):=by unfold vO;rw [gY];rfl
 have L:=Vi (v:=(v*val a).tdiv aW) (y:=val a) (w:=aW) (by omega) f j;have e3:jA v a b=-vO v a b:=by unfold jA;rw [gY]
 rw [q] at k m;have s:((xz v a b).natAbs:Int)<=100*aW:=by rw [k];omega
 have n:((vO v a b).natAbs:Int)<=100*aW:=by rw [m];omega
 have u:((jA v a b).natAbs:Int)<=100*aW:=by rw [e3,Int.natAbs_neg];exact n
 obtain ⟨x,l1⟩:=okA s;obtain ⟨z,l2⟩:=okA n;obtain ⟨A,l3⟩:=okA u;obtain ⟨k1,k2,D,_⟩:=okK o h1;obtain ⟨c1,c2⟩:=aq6;obtain ⟨c,hB2,E⟩:=r;exact ⟨⟨hp,g,c,hB2,by omega⟩,⟨x,g,c,hB2,by omega⟩,z,⟨A,c1,k1,D,by omega⟩⟩
end
end Go.Proofs.YtbiiiloimbjpaaaGreatDoor.K
