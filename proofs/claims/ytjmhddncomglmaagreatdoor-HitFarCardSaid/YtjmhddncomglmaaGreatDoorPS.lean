/- What is proved: a law of hits returns true, whatever the input (part 19). No conditions beyond those of the row. -/
import Derived.Test.YtjmhddncomglmaaGreatDoorPQ
set_option linter.unusedVariables false
set_option linter.unusedSimpArgs false
set_option linter.unusedSectionVars false
namespace Go.Proofs.YtjmhddncomglmaaGreatDoor.K
open Go Go.Eng Go.Ar Go.Rd Go.Vc Go.Ht
noncomputable section
def P0 (n:Int):AV:=.int false .i64 n
def noV (c e:Int):AV:=.tuple [.agg [P0 0,P0 0,P0 0,P0 0,P0 0,P0 0],.agg [P0 0,P0 0],P0 c,P0 e]
abbrev suO (s:Su) (n:Int) (ys:List Int) (r:Bool):Prop:=okF3 n ys/\s.g.size<1000000000/\rightS s ys=r
abbrev suK (s:Su) (k:Int):Su:={ s with kd:=k }
abbrev su2 (s:Su):Su:={ s with kd:=2,a0:=0,a1:=0,a2:=0,a3:=0 }
def cHi (F:HF) (b:Bool) (co:Int):Ctx:=hinting (cHt F true 0 0 co) fun c t=>match Nat.beq t 9&&(Nat.ble 61 c&&Nat.ble c 90) with
 | true=>some (.bool false b)
 | false=>none
theorem cHi_ok (b:Bool) (co:Int):CtxOk (cHi hf0 b co):=hinting_ok (cHt_ok true 0 0 co) _
def rHz (C:Ctx) (f:FuncId) (kd:AV) (s:Su) (n:Int) (ys:List Int) (p w:Ve):Option (Nd×AV):=oneG (viewsH true hG [(.i64,ys)]).size hG.clock ((run C 60000).call f [.agg (s.cellsZ kd++[.lslice hG.size n]),.agg (p.cells++w.cells)] (viewsH true hG [(.i64,ys)]))
variable (F:HF) (s:Su) (n:Int) (ys:List Int) (p w:Ve)
theorem ht_bad:rHt (cHt F false 0 0 0) 6 (.int true .i64 s.kd) s n ys p w=some (.p (suO s n ys false),noV 0 110):=by kernel_rfl
theorem ht_ray:rHt (cHt F true 240 0 0) 6 (.int true .i64 s.kd) s n ys p w=some (.p (suO s n ys true/\rcE F p w=240),noV 0 240):=by kernel_rfl
abbrev plP (F:HF) (s:Su) (n:Int) (ys:List Int) (p w:Ve) (k:Int):Prop:=suO s n ys true/\rcE F p w=0/\Ht.l1 F p w=true/\plE F p w=k/\k≠0
theorem ht_p2:rHt (cHt F true 0 2 0) 6 (.int true .i64 s.kd) s n ys p w=some (.p (plP F s n ys p w 2),noV 2 9):=by kernel_rfl
theorem ht_p6:rHt (cHt F true 0 6 0) 6 (.int true .i64 s.kd) s n ys p w=some (.p (plP F s n ys p w 6),noV 5 9):=by kernel_rfl
theorem ht_p7:rHt (cHt F true 0 7 0) 6 (.int true .i64 s.kd) s n ys p w=some (.p (plP F s n ys p w 7),noV 2 9):=by kernel_rfl
theorem ht_p20:rHt (cHt F true 0 20 0) 6 (.int true .i64 s.kd) s n ys p w=some (.p (plP F s n ys p w 20),noV 2 9):=by kernel_rfl
def plV (F:HF) (p w:Ve):AV:=.tuple [.agg [Z (lB F p w).lo,Z (lB F p w).hi,Z (lD F p w).lo,Z (lD F p w).hi,P0 0,P0 0],.agg [Z (lT F p w).lo,Z (lT F p w).hi],P0 0,P0 0]
abbrev okP (F:HF) (s:Su) (n:Int) (ys:List Int) (p w:Ve) (q:Prop):Prop:=suO s n ys true/\rcE F p w=0/\(Ht.l1 F p w=true/\plE F p w=0)/\q
theorem ht_3:rHt (cHt F true 0 0 0) 6 (.int false .i64 3) s n ys p w=some (.p (okP F (suK s 3) n ys p w (E2 (lT F p w).lo (lT F p w).hi)),plV F p w):=by kernel_rfl
theorem ht_4:rHt (cHt F true 0 0 0) 6 (.int false .i64 4) s n ys p w=some (.p (okP F (suK s 4) n ys p w (E2 (lT F p w).lo (lT F p w).hi)),plV F p w):=by kernel_rfl
end
end Go.Proofs.YtjmhddncomglmaaGreatDoor.K
