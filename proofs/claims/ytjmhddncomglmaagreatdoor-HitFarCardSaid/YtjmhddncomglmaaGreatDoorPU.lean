/- What is proved: a law of hits returns true, whatever the input (part 21). No conditions beyond those of the row. -/
import Derived.Test.YtjmhddncomglmaaGreatDoorPT
set_option linter.unusedVariables false
set_option linter.unusedSimpArgs false
set_option linter.unusedSectionVars false
namespace Go.Proofs.YtjmhddncomglmaaGreatDoor.K
open Go Go.Eng Go.Ar Go.Rd Go.Vc Go.Ht
noncomputable section
variable (F:HF) (s:Su) (n:Int) (ys:List Int) (p w:Ve)
theorem ht_10:rHt (cHi F false 0) 6 (.int false .i64 1) s n ys p w=some (.p (okP F (suK s 1) n ys p w ((flB s=false/\coP F n ys p w s.c s.k 0/\ndA F (suK s 1) ys (lQ F p w) w (tryI (conicP F (lQ F p w) w s.c s.k)) (okF3 n ys/\s.g.size<1000000000))/\ndT F (suK s 1) ys (lQ F p w) w (tryI (conicP F (lQ F p w) w s.c s.k)) (lT F p w))),cAns F (suK s 1) ys (lQ F p w) w (tryI (conicP F (lQ F p w) w s.c s.k)) (lT F p w)):=by kernel_rfl
theorem ht_1f:rHt (cHi F true 0) 6 (.int false .i64 1) s n ys p w=some (.p (okP F (suK s 1) n ys p w ((flB s=true/\cNd F (lQ F p w) w s.c s.k)/\(coO F (lQ F p w) w s.c s.k=true->ptOk F (lQ F p w) w (Ht.cT F (lQ F p w) w s.c s.k).lo (Ht.cT F (lQ F p w) w s.c s.k).hi=true->E2 (Ht.cT F (lQ F p w) w s.c s.k).lo (Ht.cT F (lQ F p w) w s.c s.k).hi/\E2 (lT F p w).lo (lT F p w).hi))),fAns F (lQ F p w) w s.c s.k (lT F p w)):=by kernel_rfl
end
end Go.Proofs.YtjmhddncomglmaaGreatDoor.K
