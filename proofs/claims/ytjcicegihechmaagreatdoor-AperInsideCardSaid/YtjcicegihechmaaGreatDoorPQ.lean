/- What is proved: AperInside returns true, whatever the input (part 17). No conditions beyond those of the row. -/
import Derived.Test.YtjcicegihechmaaGreatDoorPP
set_option linter.unusedVariables false
set_option linter.unusedSimpArgs false
set_option linter.unusedSectionVars false
namespace Go.Proofs.YtjcicegihechmaaGreatDoor.K
open Go Go.Eng Go.Ar Go.Rd
noncomputable section
theorem dr_A0 (d:Df):∀ g:Nat,g<5->rd1 (cDr 1 false false g) d (co 0) []=some (.p (nA d g),avA (dsA d (glB g)),0,[]):=fun g hg=>match g,hg with
 | 0,_=>by kernel_rfl
 | 1,_=>by kernel_rfl
 | 2,_=>by kernel_rfl
 | 3,_=>by kernel_rfl
 | 4,_=>by kernel_rfl
theorem dr_A1 (d:Df) (n x:Int) (zs:List Int):∀ g:Nat,g<5->rd1 (cDr 1 false false g) d (co n) (x :: zs)=some (.p (nA d g),avA (dsA d (glB g)),0,[]):=fun g hg=>match g,hg with
 | 0,_=>by kernel_rfl
 | 1,_=>by kernel_rfl
 | 2,_=>by kernel_rfl
 | 3,_=>by kernel_rfl
 | 4,_=>by kernel_rfl
theorem dr_C0 (d:Df):∀ g:Nat,g<5->rd1 (cDr 5 false false g) d (co 0) []=some (.p (nC d g),avC (dsC d (glB g)),0,[]):=fun g hg=>match g,hg with
 | 0,_=>by kernel_rfl
 | 1,_=>by kernel_rfl
 | 2,_=>by kernel_rfl
 | 3,_=>by kernel_rfl
 | 4,_=>by kernel_rfl
theorem dr_C1 (d:Df) (n x:Int) (zs:List Int):∀ g:Nat,g<5->rd1 (cDr 5 false false g) d (co n) (x :: zs)=some (.p (nC d g),avC (dsC d (glB g)),0,[]):=fun g hg=>match g,hg with
 | 0,_=>by kernel_rfl
 | 1,_=>by kernel_rfl
 | 2,_=>by kernel_rfl
 | 3,_=>by kernel_rfl
 | 4,_=>by kernel_rfl
theorem dr_D0 (d:Df):∀ g:Nat,g<5->rd1 (cDr 6 false false g) d (co 0) []=some (.p (nD d g),avD (dsD d),0,[]):=fun g hg=>match g,hg with
 | 0,_=>by kernel_rfl
 | 1,_=>by kernel_rfl
 | 2,_=>by kernel_rfl
 | 3,_=>by kernel_rfl
 | 4,_=>by kernel_rfl
theorem dr_D1 (d:Df) (n x:Int) (zs:List Int):∀ g:Nat,g<5->rd1 (cDr 6 false false g) d (co n) (x :: zs)=some (.p (nD d g),avD (dsD d),0,[]):=fun g hg=>match g,hg with
 | 0,_=>by kernel_rfl
 | 1,_=>by kernel_rfl
 | 2,_=>by kernel_rfl
 | 3,_=>by kernel_rfl
 | 4,_=>by kernel_rfl
theorem dr_E0 (d:Df):∀ g:Nat,g<5->rd1 (cDr 7 true false g) d (co 0) []=some (.p (nE d g true),avE (dsE d),0,[]):=fun g hg=>match g,hg with
 | 0,_=>by kernel_rfl
 | 1,_=>by kernel_rfl
 | 2,_=>by kernel_rfl
 | 3,_=>by kernel_rfl
 | 4,_=>by kernel_rfl
theorem dr_E1 (d:Df) (n x:Int) (zs:List Int):∀ g:Nat,g<5->rd1 (cDr 7 true false g) d (co n) (x :: zs)=some (.p (nE d g true),avE (dsE d),0,[]):=fun g hg=>match g,hg with
 | 0,_=>by kernel_rfl
 | 1,_=>by kernel_rfl
 | 2,_=>by kernel_rfl
 | 3,_=>by kernel_rfl
 | 4,_=>by kernel_rfl
theorem dr_F0 (d:Df):∀ g:Nat,g<5->rd1 (cDr 7 false false g) d (co 0) []=some (.p (nE d g false),avF (dsF d (glB g)),0,[]):=fun g hg=>match g,hg with
 | 0,_=>by kernel_rfl
 | 1,_=>by kernel_rfl
 | 2,_=>by kernel_rfl
 | 3,_=>by kernel_rfl
 | 4,_=>by kernel_rfl
theorem dr_F1 (d:Df) (n x:Int) (zs:List Int):∀ g:Nat,g<5->rd1 (cDr 7 false false g) d (co n) (x :: zs)=some (.p (nE d g false),avF (dsF d (glB g)),0,[]):=fun g hg=>match g,hg with
 | 0,_=>by kernel_rfl
 | 1,_=>by kernel_rfl
 | 2,_=>by kernel_rfl
 | 3,_=>by kernel_rfl
 | 4,_=>by kernel_rfl
theorem dr_B0 (d:Df):∀ g:Nat,g<5->rd1 (cDr 4 false false g) d (co 0) []=some (.p (nB d g),avB (dsB d (glB g)),0,[]):=fun g hg=>match g,hg with
 | 0,_=>by kernel_rfl
 | 1,_=>by kernel_rfl
 | 2,_=>by kernel_rfl
 | 3,_=>by kernel_rfl
 | 4,_=>by kernel_rfl
theorem dr_B1 (d:Df) (x:Int):∀ g:Nat,g<5->rd1 (cDr 4 false false g) d (co 1) [x]=some (.p (nB d g),avB (dsB d (glB g)),1,film0 x):=fun g hg=>match g,hg with
 | 0,_=>by kernel_rfl
 | 1,_=>by kernel_rfl
 | 2,_=>by kernel_rfl
 | 3,_=>by kernel_rfl
 | 4,_=>by kernel_rfl
theorem dr_B2 (d:Df) (x y:Int):∀ g:Nat,g<5->rd1 (cDr 4 false false g) d (co 2) [x,y]=some (.p (nB d g),avB (dsB d (glB g)),2,film0 x++film0 y):=fun g hg=>match g,hg with
 | 0,_=>by kernel_rfl
 | 1,_=>by kernel_rfl
 | 2,_=>by kernel_rfl
 | 3,_=>by kernel_rfl
 | 4,_=>by kernel_rfl
theorem dr_B3e (d:Df) (x y z:Int):∀ g:Nat,g<5->rd1 (cDr 4 false false g) d (co 3) [x,y,z]=some (.p (nB d g),avB (dsB d (glB g)),3,film0 x++(film0 y++film0 z)):=fun g hg=>match g,hg with
 | 0,_=>by kernel_rfl
 | 1,_=>by kernel_rfl
 | 2,_=>by kernel_rfl
 | 3,_=>by kernel_rfl
 | 4,_=>by kernel_rfl
theorem dr_B3 (d:Df) (x y z n:Int) (zs:List Int):∀ g:Nat,g<5->rd1 (cDr 4 false true g) d (.pslice hG.size 3 true n) (x :: y :: z :: zs)=some (.p (nB3 d g n),avB (dsB d (glB g)),3,film0 x++(film0 y++film0 z)):=fun g hg=>match g,hg with
 | 0,_=>by kernel_rfl
 | 1,_=>by kernel_rfl
 | 2,_=>by kernel_rfl
 | 3,_=>by kernel_rfl
 | 4,_=>by kernel_rfl
end
end Go.Proofs.YtjcicegihechmaaGreatDoor.K
