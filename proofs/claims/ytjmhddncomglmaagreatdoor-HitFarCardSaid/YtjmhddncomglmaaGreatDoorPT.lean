/- What is proved: a law of hits returns true, whatever the input (part 20). No conditions beyond those of the row. -/
import Derived.Test.YtjmhddncomglmaaGreatDoorPS
set_option linter.unusedVariables false
set_option linter.unusedSimpArgs false
set_option linter.unusedSectionVars false
namespace Go.Proofs.YtjmhddncomglmaaGreatDoor.K
open Go Go.Eng Go.Ar Go.Rd Go.Vc Go.Ht
noncomputable section
variable (F:HF) (s:Su) (n:Int) (ys:List Int) (p w:Ve)
noncomputable def bcC (s:Su):Int:=Int.fdiv (IntKind.i64.wrap (s.c+s.l)) (2 ^ min (Int.toNat 1) IntKind.i64.bits)
abbrev coP (F:HF) (n:Int) (ys:List Int) (p w:Ve) (c k j:Int):Prop:=(ys=[]->n=0)/\(okSc c 1000000000/\okSc (kW k) 1000000)/\tryC (conicP F (lQ F p w) w c k)=j
theorem ht_25:rHz (cHt F true 0 0 5) 6 (.int false .i64 2) s n ys p w=some (.p (okP F (su2 s) n ys p w (coP F n ys p w (bcC s) 0 5)),noV 5 9):=by kernel_rfl
theorem ht_22:rHz (cHt F true 0 0 2) 6 (.int false .i64 2) s n ys p w=some (.p (okP F (su2 s) n ys p w (coP F n ys p w (bcC s) 0 2)),noV 2 9):=by kernel_rfl
theorem ht_21:rHz (cHt F true 0 0 1) 6 (.int false .i64 2) s n ys p w=some (.p (okP F (su2 s) n ys p w (coP F n ys p w (bcC s) 0 1)),noV 2 9):=by kernel_rfl
abbrev crP (F:HF) (s:Su) (n:Int) (ys:List Int) (p w:Ve) (c k:Int):Prop:=(coP F n ys p w c k 0/\ndA F s ys (lQ F p w) w (tryI (conicP F (lQ F p w) w c k)) (okF3 n ys/\s.g.size<1000000000))/\ndT F s ys (lQ F p w) w (tryI (conicP F (lQ F p w) w c k)) (lT F p w)
theorem ht_20:rHz (cHt F true 0 0 0) 6 (.int false .i64 2) s n ys p w=some (.p (okP F (su2 s) n ys p w (crP F (su2 s) n ys p w (bcC s) 0)),cAns F (su2 s) ys (lQ F p w) w (tryI (conicP F (lQ F p w) w (bcC s) 0)) (lT F p w)):=by kernel_rfl
theorem ht_15:rHt (cHi F false 5) 6 (.int false .i64 1) s n ys p w=some (.p (okP F (suK s 1) n ys p w (flB s=false/\coP F n ys p w s.c s.k 5)),noV 5 9):=by kernel_rfl
theorem ht_12:rHt (cHi F false 2) 6 (.int false .i64 1) s n ys p w=some (.p (okP F (suK s 1) n ys p w (flB s=false/\coP F n ys p w s.c s.k 2)),noV 2 9):=by kernel_rfl
theorem ht_11:rHt (cHi F false 1) 6 (.int false .i64 1) s n ys p w=some (.p (okP F (suK s 1) n ys p w (flB s=false/\coP F n ys p w s.c s.k 1)),noV 2 9):=by kernel_rfl
end
end Go.Proofs.YtjmhddncomglmaaGreatDoor.K
