/- What is proved: MtfTwo returns true, whatever the input (part 1). No conditions beyond those of the row. -/
import GoSem.Step
import Derived.Control
import Derived.Calls
import Derived.Laws.Sem
import Derived.Laws.World
import Derived.Laws.Cells
import Derived.Laws.Rows
import Derived.Laws.Entries
import Derived.Laws.Append
import Derived.Laws.CopyRow
import Derived.Laws.AppendOwn
import Derived.Laws.StructEq
import Derived.Laws.Tables
import Derived.ChangeKeysEq
set_option linter.unusedVariables false
set_option linter.unusedSimpArgs false
set_option linter.unusedSectionVars false
set_option linter.defProp false
namespace Go
def aF:=@Bool.and_eq_true
def aP:=@Nat.eq_of_beq_eq_true
def bq:=@Int.mul_le_mul_of_nonneg_left
def aG:=@decide_eq_false
def aI:=@decide_eq_true
def bA:=@Rat.mul_le_mul_of_nonneg_left
def aK:=@Go.run_underlying
def bG:=@Int.mul_le_mul_of_nonneg_right
def aT:=@decide_eq_true_eq
def bH:=@Rat.le_of_mul_le_mul_right
def aB:=@if_neg
def bi:=@Option.some.injEq
def aN:=@List.mem_cons
def aV:=@Int.mul_nonneg
def bV:=@Int.tdiv_eq_ediv_of_nonneg
def bY:=@List.getD_eq_getElem?_getD
def cO:=@Int.tmod_eq_emod_of_nonneg
def bu:=@Int.ediv_nonneg
def dh:=@List.getElem?_eq_getElem
def aX:=@Nat.lt_or_ge
def aC:=@if_pos
def aR:=@cond_false
def bK:=@of_decide_eq_true
def aQ:=@cond_true
def bB:=@Rat.mul_nonneg
def bR:=@Go.Result.andThen_ok
def bC:=@Int.mul_le_mul
def dB:=@List.getElem?_eq_none
def dI:=@Nat.le_of_ble_eq_true
def gm:=@Rat.mul_le_mul_of_nonneg_right
def dm:=@beq_eq_false_iff_ne
def dJ:=@of_decide_eq_false
def bD:=@Nat.le_refl
def dD:=@List.length_take
def bI:=@Go.step_lone_go
def dZ:=@Nat.lt_of_lt_of_le
def d9:=@Int.emod_lt_of_pos
def bO:=@Go.Sem.run_bind
def dE:=@Int.emod_nonneg
def eU:=@List.length_pos_iff
def gK:=@List.length_eq_zero_iff
def bZ:=@Nat.mul_comm
def jd:=@Array.getElem?_eq_some_iff
def jG:=@Array.getElem?_setIfInBounds
def gL:=@Int.mul_ediv_add_emod
def gM:=@Int.ediv_le_of_le_mul
def gZ:=@List.getElem?_set_self
def ib:=@List.take_of_length_le
def je:=@List.getElem?_eq_some_iff
def df:=@Rat.le_trans
def ic:=@Array.getElem?_toList
def eX:=@List.not_mem_nil
def bn:=@if_true
def dn:=@Go.Sem.run_pure
def bz:=@if_false
def dL:=@List.map_cons
def dM:=@Int.mul_assoc
def dF:=@Nat.le_trans
def jf:=@Int.le_ediv_iff_mul_le
def iM:=@List.getElem?_set_ne
def kJ:=@List.getElem?_append_left
def gN:=@Bool.not_eq_true'
def ig:=@List.getElem?_drop
def gp:=@List.take_length
def iN:=@Int.toNat_of_nonneg
def eH:=@Prod.mk.injEq
def jg:=@List.mem_of_getElem?
def lT:=@Int.fdiv_eq_ediv_of_nonneg
def kK:=@decide_eq_false_iff_not
def jH:=@List.mem_append_right
def gq:=@Bool.eq_iff_iff
def gu:=@Int.natCast_mul
def dO:=@Int.le_refl
def bL:=@congrArg
def mO:=@Array.getD_eq_getD_getElem?
def eO:=@Int.mul_comm
def kL:=@Rat.intCast_le_intCast
def dR:=@Nat.add_mul
def jI:=@Nat.mul_le_mul_right
def jJ:=@List.mem_cons_of_mem
def jK:=@List.mem_append_left
def dU:=@Int.mul_add
def il:=@List.length_cons
def iq:=@List.length_drop
def mP:=@List.getElem?_append_right
def oF:=@List.take_append_of_le_length
def mQ:=@Nat.shiftRight_eq_div_pow
def kM:=@Nat.pow_le_pow_right
def kN:=@Int.natAbs_of_nonneg
def dV:=@beq_iff_eq
def jL:=@List.getElem?_take
def jM:=@List.length_append
def fJ:=@Nat.zero_add
def kP:=@Array.toList_append
def fK:=@Int.le_of_lt
def iO:=@List.length_map
def iP:=@Nat.min_eq_left
def iA:=@List.drop_zero
def mR:=@Int.eq_ofNat_of_zero_le
def eP:=@Nat.not_lt
def gy:=@List.mem_map
def jh:=@List.length_set
def ji:=@Rat.intCast_mul
def kQ:=@Bool.eq_false_iff
def gP:=@Nat.add_zero
def lU:=@List.mem_singleton
def jN:=@List.map_append
def kR:=@Array.toList_inj
def iB:=@decide_false
def oG:=@Array.getElem?_eq_none
def iC:=@Nat.pow_succ
def kS:=@Int.ediv_le_self
def oH:=@Int.ediv_eq_zero_of_lt
def mU:=@Nat.mul_le_mul_left
def uH:=@List.drop_append_of_le_length
def kT:=@List.append_nil
def iD:=@decide_true
def jO:=@Nat.mul_assoc
def mV:=@Int.emod_eq_of_lt
def jk:=@Int.le_trans
def lV:=@List.cons.injEq
def lW:=@List.mem_append
def iQ:=@Int.add_mul
def iR:=@Nat.mul_add
def rE:=@Int.ediv_lt_of_lt_mul
def eY:=@or_false
def oI:=@Go.run_loadCells_list
def mW:=@List.filter_cons
def oJ:=@List.mem_cons_self
def mX:=@Int.natCast_ediv
def oL:=@Int.lt_of_le_of_lt
def oM:=@Int.natCast_nonneg
def jP:=@Nat.ne_of_lt
def oN:=@Go.run_storeCells_at
def iT:=@Nat.ble_eq
def mY:=@List.length_nil
def mZ:=@List.nodup_cons
def ni:=@Rat.intCast_add
def yQ:=@Nat.mul_lt_mul_of_pos_right
def yR:=@Nat.testBit_two_pow_mul_add
def nk:=@List.drop_drop
def yS:=@Nat.mod_two_eq_zero_or_one
def oO:=@Nat.div_add_mod
def oP:=@Int.ediv_mul_le
def kU:=@Nat.zero_le
def rF:=@List.append_assoc
def rG:=@List.getElem?_map
def kV:=@Nat.pow_add
def kW:=@Int.mul_one
def lX:=@Rat.le_of_lt
def jQ:=@Nat.mod_lt
def ny:=@Rat.mul_assoc
def yT:=@List.getElem?_cons_zero
def rH:=@Nat.lt_succ_self
def kX:=@Nat.blt_eq
def nz:=@Int.lt_or_le
def uI:=@Int.lt_of_lt_of_le
def rJ:=@Option.some.inj
def rM:=@Nat.not_lt_zero
def rO:=@Nat.two_pow_pos
def rQ:=@Rat.natCast_add
def oU:=@Bool.not_true
def yU:=@List.take_append_drop
def yV:=@Array.mem_of_getElem?
def uJ:=@Go.Array.range_zero'
def gQ:=@Ne.symm
def uK:=@List.nodup_append
def uL:=@Nat.lt_succ_of_lt
def uM:=@Int.toNat_natCast
def Dk:=@Nat.two_pow_add_eq_or_of_lt
def Dl:=@Int.add_mul_emod_self_right
def Dm:=@Array.toList_setIfInBounds
def rU:=@Nat.mul_le_mul
def yX:=@Bool.or_eq_false_iff
def yY:=@List.pairwise_append
def rV:=@Bool.false_and
def uN:=@Option.getD_some
def uO:=@Option.bind_some
def uP:=@Int.natCast_emod
def uQ:=@Nat.div_eq_of_lt
def oW:=@Int.zero_add
def Dn:=@List.drop_eq_getElem_cons
def yZ:=@Array.getElem?_push
def rW:=@Nat.add_assoc
def uR:=@Bool.or_eq_true
def y5:=@Nat.lt_of_le_of_lt
def y7:=@Array.foldl_toList
def nA:=@Nat.beq_eq
def y8:=@Bool.false_eq_true
def za:=@Nat.pos_of_ne_zero
def oZ:=@Go.cell_of_row
def o5:=@Go.grownCap_ge
def uS:=@List.take_zero
def zb:=@List.ext_getElem?
def uT:=@Go.eqGuard_at_int
def Dp:=@Int.ediv_lt_iff_lt_mul
def Dq:=@Nat.div_div_eq_div_mul
def ze:=@Int.mul_left_comm
def Dr:=@Int.add_mul_ediv_right
def zf:=@List.cons_append
def zg:=@List.all_eq_true
def JL:=@Nat.and_two_pow_sub_one_eq_mod
def uU:=@Bool.and_self
def uV:=@Bool.true_and
def rX:=@Nat.mul_one
def rY:=@Int.mul_neg
def rZ:=@Int.neg_mul
def zh:=@List.foldl_cons
def zi:=@Option.map_some
def zk:=@List.mem_filter
def zm:=@Nat.div_le_self
def zn:=@Nat.div_lt_self
def zo:=@Nat.testBit_and
def zq:=@Rat.natCast_mul
def Dt:=@Array.length_toList
def Du:=@List.getElem?_range
def Dv:=@List.replicate_succ
def Dw:=@Function.comp_apply
def uW:=@List.map_set
def uX:=@List.map_map
def JM:=@Int.mul_lt_mul_of_pos_right
def Dx:=@Option.isSome_some
def Dy:=@Array.ext_getElem?
def zu:=@Bool.not_false
def Dz:=@List.pairwise_cons
def zw:=@Bool.and_false
def DC:=@Nat.one_le_two_pow
def JN:=@Int.add_mul_emod_self_left
def JO:=@Array.getElem?_eq_getElem
def JP:=@Rat.le_of_mul_le_mul_left
def DD:=@Nat.le_succ_of_le
def uY:=@Int.mul_sub
def DF:=@bne_self_eq_false
def zx:=@Nat.lt_irrefl
def JQ:=@Array.getElem?_replicate
def DI:=@Nat.mod_eq_of_lt
def DJ:=@List.range'_succ
def JR:=@Array.setIfInBounds_def
def JS:=@List.getElem?_cons_succ
def DK:=@Bool.not_eq_true
def DL:=@decide_eq_decide
def JU:=@Int.ediv_ediv_of_nonneg
def DN:=@List.drop_length
def zy:=@Nat.beq_refl
def JV:=@List.length_eq_one_iff
def JW:=@Array.toList_replicate
def zz:=@Bool.true_or
def zC:=@Int.pow_succ
def JX:=@Nat.testBit_lt_two_pow
def uZ:=@Rat.not_le
def JY:=@Rat.intCast_lt_intCast
def zD:=@Int.zero_sub
def zF:=@Int.neg_tdiv
def zI:=@Int.emod_def
def DR:=@List.filter_map
def DT:=@Int.natCast_pow
def DU:=@Nat.zero_ne_one
def DV:=@Int.natAbs_tmod
def DW:=@Int.tmod_nonneg
def DX:=@Rat.intCast_neg
def DY:=@List.mapM_cons
def DZ:=@List.take_left
def r9:=@Prod.ext
def zJ:=@Int.sub_mul
def D5:=@Int.natAbs_mul
def D6:=@Int.pow_nonneg
def zK:=@Rat.mul_pos
def zL:=@Rat.le_refl
def D7:=@List.map_take
def D8:=@List.map_drop
def D9:=@Bool.or_false
def Ea:=@Bool.or_self
def Eb:=@Bool.not_not
def Ec:=@Int.mul_zero
def Ed:=@Int.add_zero
def Ee:=@Int.ediv_one
def Ef:=@Nat.mul_succ
def Eg:=@Nat.add_comm
def Eh:=@Rat.le_total
end Go
namespace Go.Eng
noncomputable section
inductive AV where
 | any (c:Bool)
 | bool (s b:Bool)
 | int (s:Bool) (k:IntKind) (n:Int)
 | str (s:Bool) (b:ByteArray)
 | nil
 | ptr (id off:Nat)
 | nilslice
 | eslice (b:Bool)
 | slice (id off len cap:Nat)
 | gslice (id off len esz:Nat)
 | func (f:FuncId) (first cap:List AV)
 | yield (l:Nat)
 | nilfunc
 | iface (t:TypeId) (v:AV)
 | niliface
 | map (id:Nat)
 | nilmap
 | vslice (id len:Nat)
 | vptr (id off:Nat)
 | pslice (id l:Nat) (s:Bool) (n:Int)
 | lslice (id:Nat) (n:Int)
 | islice (w:Bool) (id:Nat) (off n:Int)
 | panic (v:AV)
 | agg (l:List AV)
 | tuple (l:List AV)
 deriving Inhabited
def fE:AV:=.tuple []
structure AT where
 st:Nat
 v:AV
inductive ADef where
 | collected (id:Nat)
 | call (f:FuncId) (args:List AV)
structure ALoop where
 state:LoopState
 pending:Option Code
 fn:FuncId
 tmps:List AT
 params:List Tmp
 assign:Code
 body:Code
 defers:Nat
inductive ABody where
 | dead
 | cells (l:List AV)
 | view (l:List AV)
 | hold (l:List AV)
 | rows (k:IntKind) (xs:List Int)
 | grown (l:List AV)
 | ints (k:IntKind) (xs:List Int)
 | map (es:List (AV×AV))
 | loop (r:ALoop)
 | defers (taken:Bool)
structure ABlk where
 wr:Nat
 body:ABody
structure Hp where
 blks:List ABlk
 size:Nat
 clock:Nat
structure St where
 tmps:List AT
 defs:List ADef
 hp:Hp
inductive Ex where
 | normal
 | exit (id:Nat)
 | goto (l:Nat)
 | ret
 | raise (v:AV)
inductive G where
 | tt
 | b (p:Bool)
def G.val:G->Bool
 | .tt=>true
 | .b p=>p
def G.on {E:Type} (g:G) (k:Bool->E):E:=
 match g with
 | .tt=>k true
 | .b p=>k p
theorem G.on_eq {E:Type} (g:G) (k:Bool->E):g.on k=k g.val:=by cases g <;> rfl
def G.and (p:Bool):G->G
 | .tt=>.b p
 | .b q=>.b (p&&q)
def G.andG:G->G->G
 | .tt,g=>g
 | .b p,g=>g.and p
def G.or:G->G->G
 | .tt,_=>.tt
 | _,.tt=>.tt
 | .b p,.b q=>.b (p||q)
def G.ite (p:Bool):G->G->G
 | .tt,.tt=>.tt
 | .tt,.b q=>.b (p||q)
 | .b q,.tt=>.b (bif p then q else true)
 | .b q,.b E=>.b (bif p then q else E)
structure Ent where
 g:G
 x:Ex
 s:St
inductive Nd where
 | tt
 | p (q:Prop)
@[reducible] def Nd.val:Nd->Prop
 | .tt=>True
 | .p q=>q
def Nd.and:Nd->Nd->Nd
 | .tt,y=>y
 | .p a,.tt=>.p a
 | .p a,.p b=>.p (a/\b)
def Nd.imp (g:Prop):Nd->Nd
 | .tt=>.tt
 | .p a=>.p (g->a)
theorem Nd.and_val {a b:Nd}:(a.and b).val ↔ a.val/\b.val:=by cases a <;> cases b <;> simp [Nd.and,Nd.val]
theorem Nd.imp_val {g:Prop} {a:Nd}:(Nd.imp g a).val ↔ (g->a.val):=by cases a <;> simp [Nd.imp,Nd.val]
theorem Nd.lv {a b:Nd} (h:(a.and b).val):a.val:=(Nd.and_val.1 h).1
theorem Nd.rv {a b:Nd} (h:(a.and b).val):b.val:=(Nd.and_val.1 h).2
theorem Nd.iv {g:Prop} {a:Nd} (h:(Nd.imp g a).val) (k:g):a.val:=Nd.imp_val.1 h k
structure R where
 nd:Nd
 l:List Ent
@[reducible] def R.need (q:R):Prop:=q.nd.val
structure CEnt where
 g:G
 v:AV
 hp:Hp
structure CR where
 nd:Nd
 l:List CEnt
@[reducible] def CR.need (q:CR):Prop:=q.nd.val
structure AFr where
 fn:FuncId
 round:Option Nat
noncomputable def nth {α:Type} (l:List α) (n:Nat):Option α:=
 List.rec (motive:=fun _=>Nat->Option α) (fun _=>none) (fun a _ b n=>Nat.rec (motive:=fun _=>Option α) (some a) (fun m _=>b m) n) l n
noncomputable def Gg {α b:Type} (l:List α) (n:Nat) (v:α) (k:List α->b):b:=
 List.rec (motive:=fun _=>Nat->(List α->b)->b) (fun _ k=>k []) (fun a l c n k=>Nat.rec (motive:=fun _=>b) (k (v :: l)) (fun m _=>c m fun d=>k (a :: d)) n) l n k
def Vu {α b:Type}:List α->List α->(List α->b)->b
 | [],l,k=>k l
 | a :: m,l,k=>Vu m l fun r=>k (a :: r)
def fo {α:Type}:Nat->List α->List α
 | 0,l=>l
 | _+1,[]=>[]
 | n+1,_ :: l=>fo n l
def cz {a:Type} (n:Nat) (k:Nat->a):a:=
 match n with
 | 0=>k 0
 | m+1=>k (m+1)
def xA {a:Type} (n:Int) (k:Int->a):a:=
 match n with
 | .ofNat m=>cz m fun m=>k (.ofNat m)
 | .negSucc m=>cz m fun m=>k (.negSucc m)
def gB (s:Bool) (k:IntKind) (n:Int):AV:=
 match s with
 | true=>.int true k n
 | false=>xA n fun n=>.int false k n
def o6 (s:Bool) (b:Bool):AV:=
 match s with
 | true=>.bool true b
 | false=>match b with
  | true=>.bool false true
  | false=>.bool false false
def Hp.get (h:Hp) (i:Nat):Option ABlk:=
 match Nat.ble h.size i with
 | true=>none
 | false=>nth h.blks (h.size - 1 - i)
def Hp.set {E:Type} (h:Hp) (i:Nat) (b:ABody) (k:Hp->E):E:=
 Gg h.blks (h.size - 1 - i) ⟨h.clock,b⟩ fun l=>k ⟨l,h.size,h.clock⟩
def Hp.push (h:Hp) (b:ABody):Hp:=⟨⟨h.clock,b⟩ :: h.blks,h.size+1,h.clock⟩
def St.put {E:Type} (s:St) (dst:Option Tmp) (v:AV) (k:St->E):E:=
 match dst with
 | none=>k s
 | some d=>Gg s.tmps d ⟨s.hp.clock,v⟩ fun t=>k ⟨t,s.defs,s.hp⟩
def GV {a:Type} (s:St) (k:St->a):a:=cz (s.hp.clock+1) fun c=>k ⟨s.tmps,s.defs,⟨s.hp.blks,s.hp.size,c⟩⟩
mutual
def AV.under (n:Nat):AV->Bool
 | .ptr i _=>Nat.blt i n
 | .slice i _ _ _=>Nat.blt i n
 | .gslice i _ _ _=>Nat.blt i n
 | .func _ E cs=>AV.underL n E&&AV.underL n cs
 | .yield l=>Nat.blt l n
 | .iface _ v=>AV.under n v
 | .map i=>Nat.blt i n
 | .vslice i _=>Nat.blt i n
 | .pslice i _ _ _=>Nat.blt i n
 | .lslice i _=>Nat.blt i n
 | .islice _ i _ _=>Nat.blt i n
 | .panic v=>AV.under n v
 | .vptr i _=>Nat.blt i n
 | .agg l=>AV.underL n l
 | .tuple l=>AV.underL n l
 | .any _=>true
 | .bool _ _=>true
 | .int _ _ _=>true
 | .str _ _=>true
 | .nil=>true
 | .nilslice=>true
 | .eslice _=>true
 | .nilfunc=>true
 | .niliface=>true
 | .nilmap=>true
def AV.underL (n:Nat):List AV->Bool
 | []=>true
 | a :: l=>AV.under n a&&AV.underL n l
end
def vP:Value->Option AV
 | .bool b=>some (.bool false b)
 | .int k n=>some (.int false k n)
 | .string s=>some (.str false s)
 | .pointer none=>some .nil
 | .slice none 0 0=>some .nilslice
 | .nilFunc=>some .nilfunc
 | .nilIface=>some .niliface
 | .map none=>some .nilmap
 | _=>none
def Vv {α c:Type} (f:α->Option c):List α->Option (List c)
 | []=>some []
 | a :: l=>match f a with
  | none=>none
  | some b=>match Vv f l with
   | none=>none
   | some bs=>some (b :: bs)
def AV.isCell:AV->Bool
 | .any c=>c
 | .agg _=>false
 | .tuple _=>false
 | .panic _=>false
 | _=>true
def AV.isPanic:AV->Bool
 | .panic _=>true
 | _=>false
def gD:List AV->Bool
 | []=>true
 | a :: l=>a.isCell&&gD l
structure Ctx where
 P:Program
 glob:Nat->Option Nat
 con:FuncId->List AV->Hp->Option (Nd×AV×List ABody)
 ext:FuncId->List AV->Option (Nd×AV)
 loop:AFr->Code->St->Option R
 hint:Nat->Nat->Option AV:=fun _ _=>none
 two:FuncId->List AV->Hp->Option (Nd×Bool×AV×AV):=fun _ _ _=>none
 hintT:Nat->Option (Nat×AV):=fun _=>none
 part:FuncId->Bool:=fun _=>false
def fB (P:Program) (t:TypeId):Option Bool:=
 match P.underlying t with
 | none=>none
 | some (.struct _)=>some true
 | some (.array _ _)=>some true
 | some _=>some false
def iJ (P:Program) (t:TypeId):Option Nat:=(P.info? t).map (·.size)
def zeroCells (P:Program) (t:TypeId):Option (List AV):=
 match P.info? t with
 | none=>none
 | some i=>match i.zero with
  | none=>none
  | some v=>Vv vP v.cells.toList
def TB (P:Program) (t:TypeId):Option AV:=
 match P.info? t with
 | none=>none
 | some i=>match i.zero with
  | none=>none
  | some (.agg cs)=>(Vv vP cs.toList).map .agg
  | some v=>vP v
def AV.cellsA:AV->List AV
 | .agg l=>l
 | v=>[v]
def iK {α:Type}:Nat->List α->Option (List α)
 | 0,_=>some []
 | _+1,[]=>none
 | n+1,a :: l=>match iK n l with
  | none=>none
  | some r=>some (a :: r)
def partV (P:Program) (t:TypeId) (cs:List AV) (off:Nat):Option AV:=
 match fB P t with
 | none=>none
 | some true=>match iJ P t with
  | none=>none
  | some n=>(iK n (fo off cs)).map .agg
 | some false=>nth cs off
def iI:List AV->Nat->List AV->Option (List AV)
 | l,0,[]=>some l
 | l,0,v :: b=>match l with
  | []=>none
  | _ :: l=>match iI l 0 b with
   | none=>none
   | some r=>some (v :: r)
 | [],_+1,_=>none
 | a :: l,n+1,b=>match iI l n b with
  | none=>none
  | some r=>some (a :: r)
def qQ (P:Program) (h:Hp) (t:TypeId) (a:AV):Option (Nd×AV):=
 match a with
 | .ptr i off=>match h.get i with
  | some ⟨_,.cells l⟩=>(partV P t l off).map fun v=>(Nd.tt,v)
  | some ⟨_,.grown l⟩=>(partV P t l off).map fun v=>(Nd.tt,v)
  | some ⟨_,.hold l⟩=>(partV P t l off).map fun v=>(Nd.tt,v)
  | some ⟨_,.ints k xs⟩=>match P.underlying t with
   | some (.int b)=>if k=b then some (.p (off<xs.length),.int true k (xs.getD off 0)) else none
   | _=>none
  | _=>none
 | .vptr i off=>match h.get i with
  | some ⟨_,.view l⟩=>(partV P t l off).map fun v=>(Nd.tt,v)
  | some ⟨_,.rows k xs⟩=>match P.underlying t with
   | some (.int b)=>if k=b then some (.p (off<xs.length),.int true k (xs.getD off 0)) else none
   | _=>none
  | _=>none
 | _=>none
def XG {d:Type} (P:Program) (h:Hp) (t:TypeId) (a v:AV) (b:d) (k:Nd->Hp->d):d:=
 match a with
 | .ptr i off=>match h.get i with
  | some ⟨_,.cells l⟩=>match iJ P t with
   | none=>b
   | some n=>
    let c:=v.cellsA
    if c.length=n&&gD c then match iI l off c with
     | none=>b
     | some f=>h.set i (.cells f) (k .tt)
    else b
  | some ⟨_,.grown l⟩=>match iJ P t with
   | none=>b
   | some n=>
    let c:=v.cellsA
    if c.length=n&&gD c then match iI l off c with
     | none=>b
     | some f=>h.set i (.grown f) (k .tt)
    else b
  | some ⟨_,.ints q xs⟩=>match v with
   | .int _ g x=>match iJ P t with
    | some 1=>if q=g then h.set i (.ints q (xs.set off x)) (k (.p (off<xs.length))) else b
    | _=>b
   | _=>b
  | _=>b
 | _=>b
def si (Aq:Nat->Option (Nat×Nat)):List AV->List (Nat×AV)->Option (List AV)
 | cells,[]=>some cells
 | cells,(i,v) :: a=>match Aq i with
  | none=>none
  | some (off,n)=>
   let b:=v.cellsA
   if b.length=n&&gD b then match iI cells off b with
    | none=>none
    | some l=>si Aq l a
   else none
def Lf (op:BinOp) (s:Bool) (k:IntKind) (a b:Int):Option AV:=
 match op with
 | .add=>some (gB s k (k.wrap (a+b)))
 | .sub=>some (gB s k (k.wrap (a - b)))
 | .mul=>some (gB s k (k.wrap (a*b)))
 | .and=>some (gB s k (k.wrap (BitVec.ofInt k.bits a &&& BitVec.ofInt k.bits b).toNat))
 | .or=>some (gB s k (k.wrap (BitVec.ofInt k.bits a ||| BitVec.ofInt k.bits b).toNat))
 | .xor=>some (gB s k (k.wrap (BitVec.ofInt k.bits a ^^^ BitVec.ofInt k.bits b).toNat))
 | .andNot=>some (gB s k (k.wrap (BitVec.ofInt k.bits a &&& ~~~BitVec.ofInt k.bits b).toNat))
 | .eql=>some (o6 s (a==b))
 | .neq=>some (o6 s (a != b))
 | .lss=>some (o6 s (decide (a<b)))
 | .leq=>some (o6 s (decide (a<=b)))
 | .gtr=>some (o6 s (decide (a>b)))
 | .geq=>some (o6 s (decide (a>=b)))
 | _=>none
def BB (op:BinOp) (s:Bool) (k:IntKind) (a:Int) (n:Nat):Option AV:=
 match op with
 | .shl=>some (gB s k (k.wrap (a*2 ^ n)))
 | .shr=>some (gB s k (a.fdiv (2 ^ n)))
 | _=>none
inductive LK where
 | b
 | i (k:IntKind)
 | s
def Lg (g:TypeId->Option (List LK)):Nat->List Field->Option (List LK)
 | _,[]=>some []
 | off,f :: b=>match decide (f.name="_") with
  | true=>none
  | false=>match Nat.beq f.offset off with
   | false=>none
   | true=>match g f.type with
    | none=>none
    | some a=>match Lg g (off+a.length) b with
     | none=>none
     | some r=>some (a++r)
def Ak {α:Type} (z:List α):Nat->List α
 | 0=>[]
 | n+1=>z++Ak z n
def GX (P:Program) (t:TypeId) (l:List LK):Option (List LK):=
 match iJ P t with
 | none=>none
 | some n=>match Nat.beq n l.length with
  | true=>some l
  | false=>none
def BC (P:Program):Nat->TypeId->Option (List LK)
 | 0,_=>none
 | d+1,t=>match P.underlying t with
  | some .bool=>GX P t [.b]
  | some (.int k)=>GX P t [.i k]
  | some .string=>GX P t [.s]
  | some (.struct a)=>match P.stoodInHeld t with
   | true=>none
   | false=>match Lg (BC P d) 0 a.toList with
    | none=>none
    | some l=>GX P t l
  | some (.array n e)=>match BC P d e with
   | none=>none
   | some l=>GX P t (Ak l n)
  | _=>none
def QZ:List UInt8->List UInt8->Bool
 | [],[]=>true
 | a :: l,b :: m=>Nat.beq a.toNat b.toNat&&QZ l m
 | _,_=>false
def qW (x y:ByteArray):Bool:=QZ x.data.toList y.data.toList
def Lh (k:LK) (a b:AV):Option (Bool×Bool):=
 match k with
 | .b=>match a,b with
  | .bool s x,.bool s' y=>some (s||s',x==y)
  | _,_=>none
 | .i k=>match a,b with
  | .int s q x,.int s' r y=>if q=k/\r=k then some (s||s',x==y) else none
  | _,_=>none
 | .s=>match a,b with
  | .str s x,.str s' y=>some (s||s',qW x y)
  | _,_=>none
def fU:List LK->List AV->List AV->Option (Bool×Bool)
 | [],[],[]=>some (false,true)
 | k :: c,a :: l,b :: m=>match Lh k a b with
  | none=>none
  | some (s,p)=>match fU c l m with
   | none=>none
   | some (s',d)=>some (s||s',p&&d)
 | _,_,_=>none
def XH:AV->AV->Option (Bool×Bool)
 | .nil,.nil=>some (false,true)
 | .nil,.ptr _ _=>some (false,false)
 | .ptr _ _,.nil=>some (false,false)
 | _,_=>none
def Li:AV->AV->Option (Bool×Bool)
 | .nilslice,.nilslice=>some (false,true)
 | .nilslice,.slice _ _ _ _=>some (false,false)
 | .slice _ _ _ _,.nilslice=>some (false,false)
 | .nilslice,.gslice _ _ _ _=>some (false,false)
 | .gslice _ _ _ _,.nilslice=>some (false,false)
 | .nilslice,.eslice b=>some (false,b)
 | .eslice b,.nilslice=>some (false,b)
 | .nilslice,.pslice _ (_+1) _ _=>some (false,false)
 | .pslice _ (_+1) _ _,.nilslice=>some (false,false)
 | _,_=>none
def Q0:AV->AV->Option (Bool×Bool)
 | .nilfunc,.nilfunc=>some (false,true)
 | .nilfunc,.func _ _ _=>some (false,false)
 | .func _ _ _,.nilfunc=>some (false,false)
 | _,_=>none
def Lj (m:Bool):AV->AV->Option (Bool×Bool)
 | .niliface,.niliface=>bif m then some (false,true) else none
 | .niliface,.iface _ _=>some (false,false)
 | .iface _ _,.niliface=>some (false,false)
 | _,_=>none
def TC (P:Program) (t:TypeId):AV->AV->Option (Bool×Bool)
 | .agg l,.agg m=>match P.eqGuardType P.depth t with
  | true=>none
  | false=>match BC P 20 t with
   | none=>none
   | some a=>fU a l m
 | _,_=>none
def eqV (P:Program) (t:TypeId) (a b:AV):Option (Bool×Bool):=
 match P.underlying t with
 | some .bool=>Lh .b a b
 | some .string=>Lh .s a b
 | some (.pointer _)=>XH a b
 | some (.slice _)=>Li a b
 | some (.func _ _ _)=>Q0 a b
 | some (.struct _)=>TC P t a b
 | some (.array _ _)=>TC P t a b
 | some (.interface c)=>Lj c.isEmpty a b
 | _=>none
def Ll (op:BinOp) (a b:AV):Option (Nd×AV):=
 match a,b with
 | .int s k x,.int s' _ y=>match s' with
  | false=>match decide (y<0) with
   | true=>none
   | false=>match BB op s k x (min y.toNat k.bits) with
    | none=>none
    | some v=>some (.tt,v)
  | true=>match BB op true k x (min y.toNat k.bits) with
   | none=>none
   | some v=>some (.p (0<=y),v)
 | _,_=>none
def Lm (op:BinOp) (s:Bool) (k:IntKind) (x y:Int):Option AV:=
 match op with
 | .quo=>some (gB s k (k.wrap (x.tdiv y)))
 | .rem=>some (gB s k (x.tmod y))
 | _=>none
def adv (op:BinOp) (a b:AV):Option (Nd×AV):=
 match a,b with
 | .int s k x,.int s' c y=>if k=c then match s' with
   | false=>match decide (y=0) with
    | true=>none
    | false=>match Lm op s k x y with
     | none=>none
     | some v=>some (.tt,v)
   | true=>match Lm op true k x y with
    | none=>none
    | some v=>some (.p (y≠0),v)
  else none
 | _,_=>none
def cmpV (P:Program) (op:BinOp) (t:TypeId) (a b:AV):Option (Nd×AV):=
 match op with
 | .eql=>match eqV P t a b with
  | none=>none
  | some (s,p)=>some (.tt,o6 s p)
 | .neq=>match eqV P t a b with
  | none=>none
  | some (s,p)=>some (.tt,o6 s !p)
 | _=>none
def aiZ (P:Program) (op:BinOp) (t:TypeId) (a b:AV):Option (Nd×AV):=
 match a,b with
 | .lslice _ n,.nilslice=>match P.underlying t with
  | some (.slice _)=>match op with
   | .eql=>some (.p (0<n),.bool false false)
   | .neq=>some (.p (0<n),.bool false true)
   | _=>none
  | _=>none
 | _,_=>none
def XI (P:Program) (op:BinOp) (t:TypeId) (a b:AV):Option (Nd×AV):=
 match a,b with
 | .int s k x,.int s' c y=>if k=c then match Lf op (s||s') k x y with
   | none=>none
   | some v=>some (.tt,v)
  else none
 | a,b=>match aiZ P op t a b with
  | some r=>some r
  | none=>cmpV P op t a b
def adw (P:Program) (op:BinOp) (t:TypeId) (a b:AV):Option (Nd×AV):=
 match op with
 | .shl=>Ll op a b
 | .shr=>Ll op a b
 | .quo=>adv op a b
 | .rem=>adv op a b
 | _=>XI P op t a b
def unV (op:UnOp):AV->Option AV
 | .int s k n=>match op with
  | .neg=>some (gB s k (k.wrap (0 - n)))
  | .xor=>Lf .xor s k (if k.signed then -1 else k.max) n
  | _=>none
 | .bool s b=>match op with
  | .not=>some (o6 s !b)
  | _=>none
 | _=>none
def TD (P:Program) (b dst:TypeId) (a:AV):Option AV:=
 match a with
 | .int s _ n=>match P.underlying b with
  | none=>none
  | some _=>match P.underlying dst with
   | some (.int k)=>some (gB s k (k.wrap n))
   | _=>none
 | _=>none
mutual
def lu:AV->AV->Bool
 | .bool false a,.bool false b=>a==b
 | .int false k a,.int false h b=>(k==h)&&(a==b)
 | .str false a,.str false b=>qW a b
 | .nil,.nil=>true
 | .ptr i o,.ptr j q=>Nat.beq i j&&Nat.beq o q
 | .nilslice,.nilslice=>true
 | .eslice a,.eslice b=>a==b
 | .slice i o l c,.slice j q m d=>Nat.beq i j&&Nat.beq o q&&Nat.beq l m&&Nat.beq c d
 | .gslice i o l c,.gslice j q m d=>Nat.beq i j&&Nat.beq o q&&Nat.beq l m&&Nat.beq c d
 | .func f p cs,.func g r s=>Nat.beq f g&&qf p r&&qf cs s
 | .yield l,.yield m=>Nat.beq l m
 | .nilfunc,.nilfunc=>true
 | .niliface,.niliface=>true
 | .nilmap,.nilmap=>true
 | .map i,.map j=>Nat.beq i j
 | .vslice i l,.vslice j m=>Nat.beq i j&&Nat.beq l m
 | .pslice i l false n,.pslice j m false k=>Nat.beq i j&&Nat.beq l m&&(n==k)
 | .vptr i o,.vptr j q=>Nat.beq i j&&Nat.beq o q
 | .iface t a,.iface u b=>Nat.beq t u&&lu a b
 | .panic a,.panic b=>lu a b
 | .agg l,.agg m=>qf l m
 | .tuple l,.tuple m=>qf l m
 | _,_=>false
def qf:List AV->List AV->Bool
 | [],[]=>true
 | a :: l,b :: m=>lu a b&&qf l m
 | _,_=>false
end
mutual
def Ei (p:Bool):AV->AV->AV
 | .int s k a,.int s' c b=>if k=c then match s||s' with
   | true=>.int true k (bif p then a else b)
   | false=>if a=b then .int false k a else .int true k (bif p then a else b)
  else .any true
 | .bool s a,.bool s' b=>match s||s' with
   | true=>.bool true (bif p then a else b)
   | false=>if a=b then .bool false a else .bool true (bif p then a else b)
 | .str _ a,.str _ b=>.str true (bif p then a else b)
 | .lslice i a,.lslice j b=>match Nat.beq i j with
  | true=>.lslice i (bif p then a else b)
  | false=>.any true
 | .islice w i o a,.islice w' j d b=>match Nat.beq i j&&w==w' with
  | true=>.islice w i (bif p then o else d) (bif p then a else b)
  | false=>.any true
 | .agg l,.agg m=>match AC p l m with
  | none=>.any false
  | some r=>.agg r
 | .tuple l,.tuple m=>match AC p l m with
  | none=>.any false
  | some r=>.tuple r
 | a,b=>match lu a b with
  | true=>a
  | false=>.any (a.isCell&&b.isCell)
def AC (p:Bool):List AV->List AV->Option (List AV)
 | [],[]=>some []
 | a :: l,b :: m=>match AC p l m with
  | none=>none
  | some r=>some (Ei p a b :: r)
 | _,_=>none
end
end
end Go.Eng
namespace Go.Eng
noncomputable section
def xB (c0:Nat) (p:Bool):List AT->List AT->List AT->Option (List AT)
 | [],[],[]=>some []
 | t0 :: c,a :: l,b :: m=>match xB c0 p c l m with
  | none=>none
  | some r=>match Nat.blt a.st c0&&Nat.blt b.st c0 with
   | true=>some (t0 :: r)
   | false=>some (⟨max a.st b.st,Ei p a.v b.v⟩ :: r)
 | _,_,_=>none
def GY:Option Code->Option Code->Bool
 | none,none=>true
 | some .ret,some .ret=>true
 | some (.exit i),some (.exit j)=>Nat.beq i j
 | _,_=>false
def JZ:LoopState->LoopState->Bool
 | .ready,.ready=>true
 | .busy,.busy=>true
 | .done,.done=>true
 | .exhausted,.exhausted=>true
 | _,_=>false
def l8 (p:Bool) (d:Option ABody) (a b:ABody):Option ABody:=
 match d with
 | some (.loop c)=>match a with
  | .loop x=>match b with
   | .loop y=>match JZ x.state y.state&&GY x.pending y.pending with
    | true=>some (.loop { c with state:=x.state,pending:=x.pending })
    | false=>none
   | _=>none
  | _=>none
 | _=>match a with
  | .cells l=>match b with
   | .cells m=>match AC p l m with
    | none=>some .dead
    | some r=>some (.cells r)
   | _=>some .dead
  | .grown l=>match b with
   | .grown m=>match AC p l m with
    | none=>some .dead
    | some r=>some (.grown r)
   | _=>some .dead
  | .ints k xs=>match b with
   | .ints f ys=>if k=f then some (.ints k (bif p then xs else ys)) else some .dead
   | _=>some .dead
  | .defers x=>match b with
   | .defers y=>if x=y then some (.defers x) else some .dead
   | _=>some .dead
  | _=>some .dead
def u6 (p:Bool):List ABlk->List ABlk->Option (List ABlk)
 | [],[]=>some []
 | a :: l,b :: m=>match u6 p l m with
  | none=>none
  | some r=>match l8 p none a.body b.body with
   | none=>none
   | some d=>some (⟨max a.wr b.wr,d⟩ :: r)
 | _,_=>none
def qg (c0:Nat) (p:Bool):List ABlk->List ABlk->List ABlk->Option (List ABlk)
 | [],[],[]=>some []
 | x :: c,a :: l,b :: m=>match qg c0 p c l m with
  | none=>none
  | some r=>match Nat.blt a.wr c0&&Nat.blt b.wr c0 with
   | true=>some (x :: r)
   | false=>match l8 p (some x.body) a.body b.body with
    | none=>none
    | some d=>some (⟨max a.wr b.wr,d⟩ :: r)
 | _,_,_=>none
def Q3 (c0:Nat) (p:Bool) (a:Nat) (d b c:List ABlk):Option (List ABlk):=
 match iK a b with
 | none=>none
 | some f=>match iK a c with
  | none=>none
  | some g=>match u6 p f g with
   | none=>none
   | some u=>match qg c0 p d (fo a b) (fo a c) with
    | none=>none
    | some v=>Vu u v some
def jR:List ADef->List ADef->Bool
 | [],[]=>true
 | .collected a :: l,.collected b :: m=>Nat.beq a b&&jR l m
 | .call f as :: l,.call g bs :: m=>Nat.beq f g&&qf as bs&&jR l m
 | _,_=>false
mutual
def AV.cut (n:Nat):AV->AV
 | .ptr i o=>bif Nat.blt i n then .ptr i o else .any true
 | .slice i o l c=>bif Nat.blt i n then .slice i o l c else .any true
 | .gslice i o l c=>bif Nat.blt i n then .gslice i o l c else .any true
 | .func f E cs=>match AV.underL n E&&AV.underL n cs with
  | true=>.func f E cs
  | false=>.any true
 | .yield l=>bif Nat.blt l n then .yield l else .any true
 | .iface t v=>.iface t (v.cut n)
 | .map i=>bif Nat.blt i n then .map i else .any true
 | .vslice i l=>bif Nat.blt i n then .vslice i l else .any true
 | .pslice i l s k=>bif Nat.blt i n then .pslice i l s k else .any true
 | .lslice i k=>bif Nat.blt i n then .lslice i k else .any true
 | .islice w i o k=>bif Nat.blt i n then .islice w i o k else .any true
 | .panic v=>.panic (v.cut n)
 | .vptr i o=>bif Nat.blt i n then .vptr i o else .any true
 | .agg l=>.agg (AV.cutL n l)
 | .tuple l=>.tuple (AV.cutL n l)
 | .any c=>.any c
 | .bool s b=>.bool s b
 | .int s k x=>.int s k x
 | .str s b=>.str s b
 | .nil=>.nil
 | .nilslice=>.nilslice
 | .eslice b=>.eslice b
 | .nilfunc=>.nilfunc
 | .niliface=>.niliface
 | .nilmap=>.nilmap
def AV.cutL (n:Nat):List AV->List AV
 | []=>[]
 | a :: l=>AV.cut n a :: AV.cutL n l
end
def Vw (n:Nat):List AT->List AT
 | []=>[]
 | a :: l=>⟨a.st,a.v.cut n⟩ :: Vw n l
def ABody.cut (n:Nat):ABody->ABody
 | .cells l=>.cells (AV.cutL n l)
 | .grown l=>.grown (AV.cutL n l)
 | b=>b
def Vx (n:Nat):Nat->List ABlk->List ABlk
 | 0,l=>l.map fun b=>⟨b.wr,b.body.cut n⟩
 | _+1,[]=>[]
 | k+1,_ :: l=>Vx n k l
def o7 (n:Nat):List ADef->Bool
 | []=>true
 | .collected i :: l=>Nat.blt i n&&o7 n l
 | .call _ as :: l=>AV.underL n as&&o7 n l
def Ap (n:Nat) (s:St):List AT×List ABlk:=
 match Nat.beq s.hp.size n with
 | true=>(s.tmps,s.hp.blks)
 | false=>(Vw n s.tmps,Vx n (s.hp.size - n) s.hp.blks)
def NV:List AV->Option Int
 | []=>none
 | a :: l=>match l with
  | []=>match a with
   | .int false .i64 n=>some n
   | _=>none
  | _ :: _=>NV l
def adx:ABody->ABody->Bool
 | .cells l,.cells m=>match fo 23 l with
  | []=>false
  | _ :: _=>match NV l with
   | none=>false
   | some x=>match NV m with
    | none=>false
    | some y=>match decide (x=y) with
     | true=>false
     | false=>true
 | _,_=>false
def TE:List ABlk->List ABlk->Bool
 | a :: l,b :: m=>match adx a.body b.body with
  | true=>true
  | false=>TE l m
 | _,_=>false
def qX (s0:St) (p:Bool) (a b:St):Option St:=
 let n:=Nat.min a.hp.size b.hp.size
 match TE (fo (a.hp.size - n) a.hp.blks) (fo (b.hp.size - n) b.hp.blks) with
 | true=>none
 | false=>
  match Nat.ble s0.hp.size n&&jR a.defs b.defs&&o7 n a.defs with
  | false=>none
  | true=>
   let x:=Ap n a
   let y:=Ap n b
   match xB s0.hp.clock p s0.tmps x.1 y.1 with
   | none=>none
   | some t=>match Q3 s0.hp.clock p (n - s0.hp.size) s0.hp.blks x.2 y.2 with
    | none=>none
    | some h=>some ⟨t,a.defs,⟨h,n,max a.hp.clock b.hp.clock⟩⟩
def Lp:Ex->Ex->Bool
 | .normal,.normal=>true
 | .ret,.ret=>true
 | .exit i,.exit j=>Nat.beq i j
 | .goto i,.goto j=>Nat.beq i j
 | .raise a,.raise b=>lu a b
 | _,_=>false
def J2 (s0:St) (p:Bool) (e:Ent):List Ent->Option (Ent×List Ent)
 | []=>none
 | f :: l=>match Lp e.x f.x with
  | true=>match qX s0 p e.s f.s with
   | some s=>some (⟨G.ite p e.g f.g,e.x,s⟩,l)
   | none=>match J2 s0 p e l with
    | none=>none
    | some (r,a)=>some (r,f :: a)
  | false=>match J2 s0 p e l with
   | none=>none
   | some (r,a)=>some (r,f :: a)
def BD:List Ent->List Ent
 | [e]=>[⟨.tt,e.x,e.s⟩]
 | l=>l
def xe (s0:St) (p:Bool):List Ent->List Ent->List Ent
 | [],m=>m.map fun e=>⟨e.g.and !p,e.x,e.s⟩
 | e :: l,m=>match J2 s0 p e m with
  | some (r,a)=>r :: xe s0 p l a
  | none=>⟨e.g.and p,e.x,e.s⟩ :: xe s0 p l m
def NW (s0:St) (p:Bool) (a b:R):R:=⟨(Nd.imp (p=true) a.nd).and (Nd.imp (p=false) b.nd),BD (xe s0 p a.l b.l)⟩
def GZ (s0:St) (e:Ent):List Ent->List Ent
 | []=>[e]
 | f :: l=>match Lp e.x f.x with
  | true=>match e.g.on fun p=>qX s0 p e.s f.s with
   | some s=>⟨G.or e.g f.g,e.x,s⟩ :: l
   | none=>f :: GZ s0 e l
  | false=>f :: GZ s0 e l
def vQ (s0:St) (g:G):List Ent->List Ent->List Ent
 | [],l=>l
 | e :: m,l=>GZ s0 ⟨G.andG g e.g,e.x,e.s⟩ (vQ s0 g m l)
def ady (s0:St) (f:St->Option R):List Ent->Option R
 | []=>some ⟨.tt,[]⟩
 | e :: l=>match ady s0 f l with
  | none=>none
  | some r=>match e.x with
   | .normal=>match f e.s with
    | none=>none
    | some q=>some ⟨(e.g.on fun p=>Nd.imp (p=true) q.nd).and r.nd,vQ s0 e.g q.l r.l⟩
   | _=>some ⟨r.nd,GZ s0 e r.l⟩
def xn (s0:St) (r:Option R) (f:St->Option R):Option R:=
 match r with
 | none=>none
 | some ⟨nd,[⟨.tt,.normal,s⟩]⟩=>match f s with
  | none=>none
  | some q=>some ⟨nd.and q.nd,q.l⟩
 | some ⟨nd,l⟩=>match ady s0 f l with
  | none=>none
  | some q=>some ⟨nd.and q.nd,BD q.l⟩
def NY (x:Ex) (s:St):Option R:=some ⟨.tt,[⟨.tt,x,s⟩]⟩
structure Rec where
 code:AFr->Code->St->Option R
 call:FuncId->List AV->Hp->Option CR
 yield:Nat->List AV->Hp->Option CR
def bv (C:Ctx) (s:St):Operand->AV
 | .tmp t=>match nth s.tmps t with
  | some a=>a.v
  | none=>fE
 | .const v=>match vP v with
  | some a=>a
  | none=>.any false
 | .global g=>match C.glob g with
  | some i=>.ptr i 0
  | none=>.any false
 | .func f=>.func f [] []
def jB (C:Ctx) (s:St):List Operand->List AV
 | []=>[]
 | x :: l=>bv C s x :: jB C s l
def kY (C:Ctx) (s:St):List (Nat×Operand)->List (Nat×AV)
 | []=>[]
 | (i,x) :: l=>(i,bv C s x) :: kY C s l
structure S1 where
 nd:Nd
 v:AV
 h:Hp
@[reducible] def S1.need (q:S1):Prop:=q.nd.val
abbrev fV:=Option S1
def qh (h:Hp):Option (Nd×AV)->fV
 | none=>none
 | some (nd,v)=>some ⟨nd,v,h⟩
def kw (h:Hp):Option AV->fV
 | none=>none
 | some v=>some ⟨.tt,v,h⟩
def xD (len:Nat) (s:Bool) (i:Int):Option (Nd×Nat):=
 match s with
 | false=>if 0<=i/\i<len then some (.tt,i.toNat) else none
 | true=>some (.p (0<=i/\i<len),i.toNat)
def xG (id off n:Nat):AV:=cz (off+n) fun o=>.ptr id o
def vR (P:Program) (t:TypeId) (x ix:AV):Option (Nd×AV):=
 match ix with
 | .int s _ i=>match P.underlying t,x with
  | some (.array len a),.ptr id off=>match iJ P a,xD len s i with
   | some n,some (nd,j)=>match s with
    | false=>some (nd,xG id off (j*n))
    | true=>some (nd,.ptr id (off+j*n))
   | _,_=>none
  | some (.slice a),.slice id off len _=>match iJ P a,xD len s i with
   | some n,some (nd,j)=>match s with
    | false=>some (nd,xG id off (j*n))
    | true=>some (nd,.ptr id (off+j*n))
   | _,_=>none
  | some (.slice a),.vslice id len=>match iJ P a,xD len s i with
   | some n,some (nd,j)=>match s with
    | false=>some (nd,cz (j*n) fun o=>.vptr id o)
    | true=>some (nd,.vptr id (j*n))
   | _,_=>none
  | some (.slice a),.pslice id l _ _=>match s with
   | false=>match iJ P a,xD l false i with
    | some n,some (nd,j)=>some (nd,cz (j*n) fun o=>.vptr id o)
    | _,_=>none
   | true=>none
  | some (.slice a),.gslice id off len e=>match iJ P a,xD len s i with
   | some n,some (nd,j)=>if n=e then match s with
     | false=>some (nd,xG id off (j*n))
     | true=>some (nd,.ptr id (off+j*n))
    else none
   | _,_=>none
  | some (.slice a),.lslice id n=>match iJ P a with
   | some 1=>some (.p (0<=i/\i<n),.vptr id i.toNat)
   | _=>none
  | some (.slice a),.islice w id o n=>match iJ P a with
   | some 1=>match w with
    | true=>some (.p (0<=i/\i<n),.ptr id (o+i).toNat)
    | false=>some (.p (0<=o/\0<=i/\i<n),.vptr id (o+i).toNat)
   | _=>none
  | some (.array len a),.vptr id off=>match s with
   | false=>match iJ P a,xD len false i with
    | some n,some (nd,j)=>some (nd,cz (off+j*n) fun o=>.vptr id o)
    | _,_=>none
   | true=>none
  | _,_=>none
 | _=>none
def G5 (P:Program) (t:TypeId) (x ix:AV):Option AV:=
 match ix,x with
 | .int false _ i,.agg cs=>match P.underlying t with
  | some (.array len a)=>match iJ P a with
   | none=>none
   | some n=>if 0<=i/\i<len then partV P a cs (i.toNat*n) else none
  | _=>none
 | .int false _ i,.str false b=>match P.underlying t with
  | some .string=>if 0<=i then match b.data.toList[i.toNat]? with
    | some c=>some (.int false .u8 c.toNat)
    | none=>none
   else none
  | _=>none
 | _,_=>none
def Lr (P:Program) (t:TypeId) (x:AV) (f:Nat):Option AV:=
 match P.underlying t,x with
 | some (.struct b),.agg cs=>match b[f]? with
  | none=>none
  | some a=>partV P a.type cs a.offset
 | _,_=>none
def vU (P:Program) (t:TypeId) (x:AV) (f:Nat):Option AV:=
 match P.underlying t,x with
 | some (.struct b),.ptr id off=>match b[f]? with
  | none=>none
  | some a=>match iJ P a.type with
   | some (_+1)=>some (xG id off a.offset)
   | _=>none
 | _,_=>none
def jv (y:Nat):AV->Option Nat
 | .int false _ i=>match decide (0<=i/\i<=y) with
  | true=>some i.toNat
  | false=>none
 | _=>none
def qY (cap:Nat):Option AV->Option Nat
 | none=>some cap
 | some v=>jv cap v
def nQ (len m:Nat) (mx:Option AV):Option AV->Option Nat
 | some v=>jv m v
 | none=>match mx with
  | none=>some len
  | some _=>none
def mF (h:Nat):Option AV->Option Nat
 | none=>some 0
 | some v=>jv h v
def iE (len cap:Nat) (lo hi mx:Option AV):Option (Nat×Nat×Nat):=
 match qY cap mx with
 | none=>none
 | some m=>match nQ len m mx hi with
  | none=>none
  | some h=>match mF h lo with
   | none=>none
   | some l=>some (l,h,m)
def G6 (P:Program) (t:TypeId) (x:AV) (lo hi mx:Option AV):Option AV:=
 match P.underlying t with
 | some (.slice a)=>match iJ P a with
  | none=>none
  | some n=>match x with
   | .slice id off len cap=>match iE len cap lo hi mx with
    | none=>none
    | some (l,h,m)=>some (cz (bif Nat.beq m l then off else off+l*n) fun o=>cz (h - l) fun le=>cz (m - l) fun c=>.slice id o le c)
   | .gslice id off len e=>match mx with
    | some mx=>match iE len len lo hi (some mx) with
     | none=>none
     | some (l,h,m)=>match Nat.beq n e&&Nat.blt 0 len with
      | true=>some (cz (bif Nat.beq m l then off else off+l*n) fun o=>cz (h - l) fun le=>cz (m - l) fun c=>.slice id o le c)
      | false=>none
    | none=>match iE len len lo hi none with
     | none=>none
     | some (l,h,_)=>match Nat.beq n e with
      | true=>some (cz (off+l*n) fun o=>cz (h - l) fun le=>.gslice id o le e)
      | false=>none
   | .nilslice=>match iE 0 0 lo hi mx with
    | none=>none
    | some _=>some .nilslice
   | _=>none
 | some (.array len a)=>match iJ P a with
  | none=>none
  | some n=>match x with
   | .ptr id off=>match iE len len lo hi mx with
    | none=>none
    | some (l,h,m)=>some (cz (bif Nat.beq m l then off else off+l*n) fun o=>cz (h - l) fun le=>cz (m - l) fun c=>.slice id o le c)
   | _=>none
 | some .string=>match x with
  | .str false b=>match mx with
   | some _=>none
   | none=>match iE b.size b.size lo hi none with
    | none=>none
    | some (l,h,_)=>some (.str false (b.extract l h))
  | _=>none
 | _=>none
def Ls (P:Program) (t:TypeId) (x ix:AV):Option (Nd×AV):=
 match G5 P t x ix with
 | some v=>some (.tt,v)
 | none=>match ix with
  | .int _ _ i=>match x with
   | .str _ b=>match P.underlying t with
    | some .string=>some (.p (0<=i/\i<b.size),.int true .u8 (b.data.toList.getD i.toNat 0).toNat)
    | _=>none
   | _=>none
  | _=>none
def G7 (d:Int):Option AV->Option Int
 | none=>some d
 | some (.int _ _ i)=>some i
 | some _=>none
def Lt (P:Program) (t:TypeId) (x:AV) (lo hi mx:Option AV):Option (Nd×AV):=
 match G6 P t x lo hi mx with
 | some v=>some (.tt,v)
 | none=>match mx with
  | some _=>none
  | none=>match x with
   | .str _ b=>match P.underlying t with
    | some .string=>match G7 0 lo with
     | none=>none
     | some l=>match G7 b.size hi with
      | none=>none
      | some h=>some (.p (0<=l/\l<=h/\h<=b.size),.str true (b.extract l.toNat h.toNat))
    | _=>none
   | .pslice id l _ _=>match P.underlying t with
    | some (.slice a)=>match iJ P a with
     | none=>none
     | some _=>match lo with
      | some _=>none
      | none=>match hi with
       | none=>none
       | some v=>match jv l v with
        | none=>none
        | some h=>some (.tt,cz h fun h=>.pslice id h false h)
    | _=>none
   | .lslice id n=>match P.underlying t with
    | some (.slice a)=>match iJ P a with
     | none=>none
     | some c=>match lo with
      | some (.int _ _ l)=>match Nat.beq c 1 with
       | false=>none
       | true=>match G7 n hi with
        | none=>none
        | some h=>some (.p (0<=l/\l<=h/\h<=n),.islice false id l (h - l))
      | some _=>none
      | none=>match hi with
       | some (.int _ _ h)=>some (.p (0<=h/\h<=n),.lslice id h)
       | _=>none
    | _=>none
   | .islice w id o n=>match P.underlying t with
    | some (.slice a)=>match iJ P a with
     | some 1=>match G7 0 lo with
      | none=>none
      | some l=>match G7 n hi with
       | none=>none
       | some h=>some (.p (0<=l/\l<=h/\h<=n),.islice w id (o+l) (h - l))
     | _=>none
    | _=>none
   | _=>none
def qi (C:Ctx) (s:St):Option Operand->Option AV
 | none=>none
 | some x=>some (bv C s x)
def adz (P:Program) (t:TypeId):AV->Option (Nd×AV)
 | .vslice _ n=>match P.underlying t with
  | some (.slice _)=>some (.tt,.int false .i64 n)
  | _=>none
 | .pslice _ _ s n=>match P.underlying t with
  | some (.slice _)=>some (.tt,gB s .i64 n)
  | _=>none
 | .lslice _ n=>match P.underlying t with
  | some (.slice _)=>some (.tt,.int true .i64 n)
  | _=>none
 | .islice _ _ _ n=>match P.underlying t with
  | some (.slice _)=>some (.tt,.int true .i64 n)
  | _=>none
 | .slice _ _ n _=>match P.underlying t with
  | some (.slice _)=>some (.tt,.int false .i64 n)
  | _=>none
 | .gslice _ _ n _=>match P.underlying t with
  | some (.slice _)=>some (.tt,.int false .i64 n)
  | _=>none
 | .nilslice=>match P.underlying t with
  | some (.slice _)=>some (.tt,.int false .i64 0)
  | _=>none
 | .str s b=>match P.underlying t with
  | some .string=>some (.tt,gB s .i64 b.size)
  | _=>none
 | _=>match P.underlying t with
  | some (.array n _)=>some (.tt,.int false .i64 n)
  | _=>none
def min2:AV->AV->Option AV
 | .int s k x,.int s' _ y=>some (gB (s||s') k (if y<x then y else x))
 | _,_=>none
def max2:AV->AV->Option AV
 | .int s k x,.int s' _ y=>some (gB (s||s') k (if y>x then y else x))
 | _,_=>none
def TG (f:AV->AV->Option AV):AV->List AV->Option AV
 | a,[]=>some a
 | a,b :: l=>match f a b with
  | none=>none
  | some c=>TG f c l
def Gm (P:Program):List Field->Option (List (Nat×Nat))
 | []=>some []
 | f :: a=>match iJ P f.type with
  | none=>none
  | some n=>match Gm P a with
   | none=>none
   | some r=>some ((f.offset,n) :: r)
def Lu (P:Program) (t:TypeId) (a:List (Nat×AV)):Option AV:=
 match zeroCells P t with
 | none=>none
 | some z=>match P.underlying t with
  | some (.struct b)=>match Gm P b.toList with
   | none=>none
   | some c=>match si (nth c) z a with
    | none=>none
    | some l=>some (.agg l)
  | some (.array _ e)=>match iJ P e with
   | none=>none
   | some n=>match si (fun i=>some (i*n,n)) z a with
    | none=>none
    | some l=>some (.agg l)
  | _=>none
def qj (h:Hp) (size:Nat):AV->Option (Nat×List AV)
 | .nilslice=>some (0,[])
 | .eslice _=>some (0,[])
 | .slice i off n _=>match h.get i with
  | some ⟨_,.cells l⟩=>(iK (n*size) (fo off l)).map fun r=>(n,r)
  | some ⟨_,.grown l⟩=>(iK (n*size) (fo off l)).map fun r=>(n,r)
  | _=>none
 | .gslice i off n _=>match h.get i with
  | some ⟨_,.grown l⟩=>(iK (n*size) (fo off l)).map fun r=>(n,r)
  | _=>none
 | .pslice i l false n=>match n with
  | .negSucc _=>none
  | .ofNat 0=>some (0,[])
  | .ofNat (m+1)=>match h.get i with
   | some ⟨_,.view c⟩=>match Nat.ble (m+1) l with
    | true=>(iK ((m+1)*size) c).map fun r=>(m+1,r)
    | false=>none
   | _=>none
 | _=>none
def zM:Nat:=1048576
def XJ (h:Hp) (size n:Nat) (new:List AV):Option (AV×Hp):=
 match n with
 | 0=>some (.nilslice,h)
 | m+1=>match Nat.ble (m+1) zM with
  | true=>some (.gslice h.size 0 (m+1) size,h.push (.grown new))
  | false=>none
def TH (h:Hp) (size id off len cap n:Nat) (new:List AV):Option (AV×Hp):=
 match h.get id with
 | some ⟨_,.cells l⟩=>match iI l (off+len*size) new with
  | none=>none
  | some a=>h.set id (.cells a) fun h=>some (cz (len+n) fun m=>.slice id off m cap,h)
 | _=>none
def TI (h:Hp) (size:Nat) (s:AV) (len n:Nat) (new:List AV):Option (AV×Hp):=
 match qj h size s with
 | none=>none
 | some (_,old)=>match Nat.ble (len+n) zM with
  | true=>Vu old new fun l=>some (cz (len+n) fun m=>.gslice h.size 0 m size,h.push (.grown l))
  | false=>none
def ah1 (h:Hp) (size id off len esz n:Nat) (new:List AV):Option (AV×Hp):=
 match n with
 | 0=>some (.gslice id off len esz,h)
 | m+1=>match h.get id with
  | some ⟨_,.grown l⟩=>match Nat.beq esz size&&Nat.beq off 0&&Nat.blt 0 len&&Nat.beq l.length (len*esz)&&Nat.ble (len+(m+1)) zM with
   | true=>h.set id .dead fun h=>Vu l new fun l=>some (cz (len+(m+1)) fun m=>.gslice h.size 0 m esz,h.push (.grown l))
   | false=>none
  | _=>none
def TJ (P:Program) (h:Hp) (t:TypeId) (s x:AV):Option (AV×Hp):=
 match P.underlying t with
 | some (.slice e)=>match P.info? e with
  | none=>none
  | some i=>match zeroCells P e with
   | none=>none
   | some z=>match Nat.beq z.length i.size&&Nat.ble i.bytes 65536 with
    | false=>none
    | true=>match qj h i.size x with
     | none=>none
     | some (n,new)=>match gD new with
      | false=>none
      | true=>match s with
       | .nilslice=>XJ h i.size n new
       | .slice id off len cap=>match Nat.ble (len+n) cap with
        | true=>TH h i.size id off len cap n new
        | false=>TI h i.size (.slice id off len cap) len n new
       | .gslice id off len esz=>ah1 h i.size id off len esz n new
       | _=>none
 | _=>none
def nC (c:TypeDesc) (a b:AV):Option Bool:=
 match c with
 | .int _=>match a,b with
  | .int false k x,.int false d y=>if k=d then some (x==y) else none
  | _,_=>none
 | .bool=>match a,b with
  | .bool false x,.bool false y=>some (x==y)
  | _,_=>none
 | .string=>match a,b with
  | .str false x,.str false y=>some (qW x y)
  | _,_=>none
 | _=>none
def Fq (b:TypeDesc) (k:AV):List (AV×AV)->Option (Option AV)
 | []=>some none
 | (a,v) :: l=>match nC b k a with
  | none=>none
  | some true=>some (some v)
  | some false=>Fq b k l
def lH (b:TypeDesc) (k:AV):List (AV×AV)->Bool
 | []=>true
 | (a,_) :: l=>match nC b k a with
  | none=>false
  | some _=>lH b k l
def J3 (a:TypeDesc) (k:AV) (es:List (AV×AV)):Option (Option AV):=
 match lH a k es with
 | true=>Fq a k es
 | false=>none
def Lv:TypeDesc->Bool
 | .int _=>true
 | .bool=>true
 | .string=>true
 | _=>false
def mG (P:Program) (h:Hp) (t:TypeId) (x k:AV) (ok:Bool):Option AV:=
 match P.underlying t with
 | some (.map b e)=>match P.underlying b with
  | none=>none
  | some a=>match Lv a with
   | false=>none
   | true=>match x with
    | .map i=>match h.get i with
     | some ⟨_,.map es⟩=>match J3 a k es with
      | none=>none
      | some (some v)=>some (if ok then .tuple [v,.bool false true] else v)
      | some none=>match TB P e with
       | none=>none
       | some z=>some (if ok then .tuple [z,.bool false false] else z)
     | _=>none
    | _=>none
 | _=>none
def Ej (b:TypeDesc) (k v:AV):List (AV×AV)->List (AV×AV)
 | []=>[]
 | (a,x) :: l=>(match nC b k a with
  | some true=>(a,v)
  | _=>(a,x)) :: Ej b k v l
def El:AV->Option Nat
 | .nilslice=>some 0
 | .slice _ _ n _=>some n
 | .gslice _ _ n _=>some n
 | _=>none
def Q4 (h:Hp) (n:Nat):AV->Option (List AV)
 | .slice i off _ _=>match h.get i with
  | some ⟨_,.cells l⟩=>iK n (fo off l)
  | some ⟨_,.grown l⟩=>iK n (fo off l)
  | _=>none
 | .gslice i off _ _=>match h.get i with
  | some ⟨_,.grown l⟩=>iK n (fo off l)
  | _=>none
 | _=>match n with
  | 0=>some []
  | _=>none
def G8 {a:Type} (h:Hp) (id off n:Nat) (cs:List AV) (b:a) (k:AV->Hp->a):a:=
 match h.get id with
 | some ⟨_,.cells l⟩=>match iI l off cs with
  | none=>b
  | some c=>h.set id (.cells c) fun h=>k (gB false .i64 n) h
 | some ⟨_,.grown l⟩=>match iI l off cs with
  | none=>b
  | some c=>h.set id (.grown c) fun h=>k (gB false .i64 n) h
 | _=>b
def XK {b:Type} (P:Program) (h:Hp) (t:TypeId) (d x:AV) (a:b) (k:AV->Hp->b):b:=
 match P.underlying t with
 | some (.slice e)=>match iJ P e with
  | none=>a
  | some size=>match El d with
   | none=>a
   | some ld=>match El x with
    | none=>a
    | some c=>match Nat.min c ld with
     | 0=>k (.int false .i64 0) h
     | n+1=>match Q4 h ((n+1)*size) x with
      | none=>a
      | some cs=>match gD cs with
       | false=>a
       | true=>match d with
        | .slice id off _ _=>G8 h id off (n+1) cs a k
        | .gslice id off _ _=>G8 h id off (n+1) cs a k
        | _=>a
 | _=>a
def Em (h:Hp) (c a b:AV):fV:=
 match c with
 | .bool false p=>some ⟨.tt,bif p then a else b,h⟩
 | .bool true p=>some ⟨.tt,Ei p a b,h⟩
 | _=>none
def BF (P:Program) (h:Hp) (t:TypeId):fV:=
 match zeroCells P t with
 | none=>none
 | some z=>match gD z with
  | true=>some ⟨.tt,.ptr h.size 0,h.push (.cells z)⟩
  | false=>none
def XL (h:Hp) (v:AV):fV:=
 match gD v.cellsA with
 | true=>some ⟨.tt,.ptr h.size 0,h.push (.cells v.cellsA)⟩
 | false=>none
def vV (P:Program) (h:Hp) (t:TypeId) (len:Nat) (a:List (Nat×AV)):fV:=
 match P.underlying t with
 | some (.slice e)=>match iJ P e with
  | none=>none
  | some n=>match zeroCells P e with
   | none=>none
   | some z=>match Nat.ble (len*n) 16777216&&Nat.beq z.length n&&gD z with
    | false=>none
    | true=>match si (fun i=>some (i*n,n)) (Ak z len) a with
     | none=>none
     | some l=>some ⟨.tt,.slice h.size 0 len len,h.push (.cells l)⟩
 | _=>none
def o8 (h:Hp) (v:AV):fV:=
 match v with
 | .ptr i o=>some ⟨.tt,.ptr i o,h⟩
 | .func f a b=>some ⟨.tt,.func f a b,h⟩
 | _=>none
def sj (h:Hp) (v:AV) (i:Nat):fV:=
 match v with
 | .tuple l=>kw h (nth l i)
 | _=>none
def NZ (P:Program) (t:TypeId):Option IntKind:=
 match P.underlying t with
 | some (.slice e)=>match P.underlying e with
  | some (.int k)=>match iJ P e with
   | some 1=>some k
   | _=>none
  | _=>none
 | _=>none
def xg (k:IntKind):List AV->Option (List Int)
 | []=>some []
 | .int _ a n :: l=>match decide (k=a) with
  | true=>match xg k l with
   | some b=>some (n :: b)
   | none=>none
  | false=>none
 | _ :: _=>none
def TK (h:Hp) (k:IntKind) (x:AV):Option (Nd×Int×List Int):=
 match x with
 | .lslice i n=>match h.get i with
  | some ⟨_,.rows a xs⟩=>match decide (k=a) with
   | true=>some (.p (n=xs.length),n,xs)
   | false=>none
  | _=>none
 | .islice w i o n=>match h.get i with
  | some ⟨_,.rows a xs⟩=>match w with
   | true=>none
   | false=>match decide (k=a) with
    | true=>some (.p (0<=o/\0<=n/\o+n<=xs.length),n,(xs.drop o.toNat).take n.toNat)
    | false=>none
  | some ⟨_,.ints a xs⟩=>match w with
   | true=>match decide (k=a) with
    | true=>some (.p (0<=o/\0<=n/\o+n<=xs.length),n,(xs.drop o.toNat).take n.toNat)
    | false=>none
   | false=>none
  | _=>none
 | _=>match qj h 1 x with
  | some (n,cs)=>match xg k cs with
   | some b=>some (.tt,n,b)
   | none=>none
  | none=>none
def Lx (P:Program) (h:Hp) (t:TypeId) (l c:AV):fV:=
 match NZ P t with
 | none=>none
 | some k=>match l with
  | .int _ _ n=>match c with
   | .int _ _ m=>match P.underlying t with
    | some (.slice e)=>match P.info? e with
     | none=>none
     | some i=>match zeroCells P e with
      | some [.int false a 0]=>match decide (k=a)&&Nat.ble i.bytes 65536 with
       | true=>some ⟨.p (n=m/\0<=n/\n<=1048576),.islice true h.size 0 n,h.push (.ints k (List.replicate n.toNat 0))⟩
       | false=>none
      | _=>none
    | _=>none
   | _=>none
  | _=>none
def ai0 (P:Program) (h:Hp) (t:TypeId) (s x:AV):fV:=
 match NZ P t with
 | none=>none
 | some k=>match P.underlying t with
  | some (.slice e)=>match P.info? e with
   | none=>none
   | some i=>match zeroCells P e with
    | none=>none
    | some z=>match Nat.beq z.length i.size&&Nat.ble i.bytes 65536 with
     | false=>none
     | true=>match TK h k x with
      | none=>none
      | some (nd,m,ys)=>match s with
       | .nilslice=>some ⟨nd.and (.p (0<m/\m<=1048576)),.islice true h.size 0 m,h.push (.ints k ys)⟩
       | .slice _ _ 0 0=>some ⟨nd.and (.p (0<m/\m<=1048576)),.islice true h.size 0 m,h.push (.ints k ys)⟩
       | .islice true id o n=>match h.get id with
        | some ⟨_,.ints a xs⟩=>match decide (k=a) with
         | true=>h.set id .dead fun h=>some ⟨nd.and (.p (o=0/\0<n/\n=xs.length/\n+m<=1048576)),.islice true h.size 0 (n+m),h.push (.ints k (xs++ys))⟩
         | false=>none
        | _=>none
       | .slice id off len cap=>match h.get id with
        | some ⟨_,.cells l⟩=>match Nat.beq off 0&&Nat.blt 0 len&&Nat.ble len cap&&Nat.ble cap l.length with
         | true=>match iK len l with
          | none=>none
          | some q=>match xg k q with
           | none=>none
           | some xs=>h.set id .dead fun h=>some ⟨nd.and (.p (len+m<=1048576)),.islice true h.size 0 (len+m),h.push (.ints k (xs++ys))⟩
         | false=>none
        | _=>none
       | _=>none
  | _=>none
def Vy (xs:List Int) (o:Nat) (ys:List Int):List Int:=xs.take o++ys++xs.drop (o+ys.length)
def XM (P:Program) (h:Hp) (t:TypeId) (d x:AV):fV:=
 match NZ P t with
 | none=>none
 | some k=>match TK h k x with
  | none=>none
  | some (nd,m,ys)=>match d with
   | .islice true id o n=>match h.get id with
    | some ⟨_,.ints a xs⟩=>match decide (k=a) with
     | true=>h.set id (.ints k (Vy xs o.toNat ys)) fun h=>some ⟨nd.and (.p (0<=o/\0<m/\m<=n/\o+n<=xs.length)),.int true .i64 m,h⟩
     | false=>none
    | _=>none
   | _=>none
def vW (P:Program) (h:Hp) (t:TypeId) (l c:AV):fV:=
 match P.underlying t with
 | some (.slice e)=>match l with
  | .int false _ n=>match c with
   | .int false _ m=>match P.info? e with
    | none=>none
    | some i=>match zeroCells P e with
     | none=>none
     | some z=>match decide (0<=n/\n<=m/\m*i.bytes<=140737488355328/\m<=4294967296)&&Nat.beq z.length i.size&&gD z with
      | true=>cz n.toNat fun n=>cz m.toNat fun m=>some ⟨.tt,.slice h.size 0 n m,h.push (.cells (Ak z m))⟩
      | false=>none
   | _=>none
  | _=>none
 | _=>none
def xH (P:Program) (h:Hp) (t:TypeId) (l c:AV):fV:=
 match vW P h t l c with
 | some q=>some q
 | none=>Lx P h t l c
def Eo (P:Program) (h:Hp) (t:TypeId) (r:Option AV):fV:=
 match r with
 | none=>some ⟨.tt,.map h.size,h.push (.map [])⟩
 | some (.int _ _ _)=>match P.underlying t with
  | some (.map _ _)=>some ⟨.tt,.map h.size,h.push (.map [])⟩
  | _=>none
 | _=>none
def uf (P:Program) (h:Hp) (t:TypeId) (x k v:AV):fV:=
 match P.underlying t with
 | some (.map b _)=>match P.underlying b with
  | none=>none
  | some a=>match Lv a with
   | false=>none
   | true=>match x with
    | .map i=>match h.get i with
     | some ⟨_,.map es⟩=>match nC a k k with
      | some true=>match J3 a k es with
       | none=>none
       | some (some _)=>h.set i (.map (Ej a k v es)) fun h=>some ⟨.tt,fE,h⟩
       | some none=>h.set i (.map ((k,v) :: es)) fun h=>some ⟨.tt,fE,h⟩
      | _=>none
     | _=>none
    | _=>none
 | _=>none
def xI (P:Program) (h:Hp) (t:TypeId) (v:AV):fV:=
 match P.underlying t with
 | none=>none
 | some (.interface _)=>none
 | some _=>some ⟨.tt,.iface t v,h⟩
def vX (P:Program) (h:Hp) (v:AV) (b:TypeId) (ok:Bool):fV:=
 match P.underlying b with
 | none=>none
 | some (.interface _)=>none
 | some _=>
  let c:fV:=match ok with
   | true=>match TB P b with
    | none=>none
    | some z=>some ⟨.tt,.tuple [z,.bool false false],h⟩
   | false=>none
  match v with
  | .iface t a=>match Nat.beq t b with
   | true=>some ⟨.tt,bif ok then .tuple [a,.bool false true] else a,h⟩
   | false=>c
  | .niliface=>c
  | _=>none
def LA (P:Program) (h:Hp) (t:TypeId) (a v:AV):fV:=XG P h t a v none fun nd h=>some ⟨nd,fE,h⟩
def Ep (P:Program) (h:Hp) (t u:TypeId) (a b:AV):fV:=
 match P.underlying u with
 | some (.slice _)=>match TJ P h t a b with
  | none=>none
  | some (v,h)=>some ⟨.tt,v,h⟩
 | _=>none
def G9 (P:Program) (h:Hp) (t u:TypeId) (a b:AV):fV:=
 match Ep P h t u a b with
 | some q=>some q
 | none=>match P.underlying u with
  | some (.slice _)=>ai0 P h t a b
  | _=>none
def Q5 (P:Program) (h:Hp) (t:TypeId) (a b:AV):fV:=
 match XK P h t a b none fun v h=>some ⟨.tt,v,h⟩ with
 | some q=>some q
 | none=>XM P h t a b
def vY (h:Hp) (f:AV->AV->Option AV):List AV->fV
 | []=>none
 | v :: l=>kw h (TG f v l)
def o9 (C:Ctx) (s:St) (b:Builtin) (args:List Operand) (a:List TypeId):fV:=
 match b with
 | .len=>match args,a with
  | [x],[t]=>qh s.hp (adz C.P t (bv C s x))
  | _,_=>none
 | .copy=>match args,a with
  | [x,y],t :: _=>Q5 C.P s.hp t (bv C s x) (bv C s y)
  | _,_=>none
 | .append=>match args,a with
  | [x,y],[t,u]=>G9 C.P s.hp t u (bv C s x) (bv C s y)
  | _,_=>none
 | .min=>vY s.hp min2 (jB C s args)
 | .max=>vY s.hp max2 (jB C s args)
 | _=>none
def AJ (C:Ctx) (s:St) (c:Call):fV:=
 match c.callee with
 | .builtin b=>o9 C s b c.args.toList c.argTypes.toList
 | _=>none
def AL (C:Ctx) (s:St) (f:Fn) (first cap:List Operand):fV:=
 match f with
 | .func f=>some ⟨.tt,.func f (jB C s first) (jB C s cap),s.hp⟩
 | _=>none
def dW (C:Ctx) (s:St) (o:Op):fV:=
 match o with
 | .move x=>some ⟨.tt,bv C s x,s.hp⟩
 | .assign x=>some ⟨.tt,bv C s x,s.hp⟩
 | .pick c a b=>Em s.hp (bv C s c) (bv C s a) (bv C s b)
 | .alloc t=>BF C.P s.hp t
 | .box _ x=>XL s.hp (bv C s x)
 | .build t d=>kw s.hp (Lu C.P t (kY C s d.toList))
 | .buildSlice t len d=>vV C.P s.hp t len (kY C s d.toList)
 | .load t x=>qh s.hp (qQ C.P s.hp t (bv C s x))
 | .store t x y=>LA C.P s.hp t (bv C s x) (bv C s y)
 | .nilCheck x=>o8 s.hp (bv C s x)
 | .binOp op t x y _=>qh s.hp (adw C.P op t (bv C s x) (bv C s y))
 | .unOp op _ x=>kw s.hp (unV op (bv C s x))
 | .convert g dst x=>kw s.hp (TD C.P g dst (bv C s x))
 | .makeFunc f first cap=>AL C s f first.toList cap.toList
 | .slice t x lo hi mx=>qh s.hp (Lt C.P t (bv C s x) (qi C s lo) (qi C s hi) (qi C s mx))
 | .fieldAddr t x f=>kw s.hp (vU C.P t (bv C s x) f)
 | .field t x f=>kw s.hp (Lr C.P t (bv C s x) f)
 | .indexAddr t x i=>qh s.hp (vR C.P t (bv C s x) (bv C s i))
 | .index t x i=>qh s.hp (Ls C.P t (bv C s x) (bv C s i))
 | .lookup t x i ok=>kw s.hp (mG C.P s.hp t (bv C s x) (bv C s i) ok)
 | .extract t i=>sj s.hp (bv C s t) i
 | .makeSlice t l c=>xH C.P s.hp t (bv C s l) (bv C s c)
 | .makeMap t r=>Eo C.P s.hp t (qi C s r)
 | .mapUpdate t m k v=>uf C.P s.hp t (bv C s m) (bv C s k) (bv C s v)
 | .insert t m k v=>uf C.P s.hp t (bv C s m) (bv C s k) (bv C s v)
 | .makeInterface t x=>xI C.P s.hp t (bv C s x)
 | .typeAssert x _ t ok=>vX C.P s.hp (bv C s x) t ok
 | .call c=>AJ C s c
 | _=>none
inductive Callee' where
 | func (f:FuncId) (args:List AV)
 | yield (l:Nat) (args:List AV)
def callee (f:AV) (args:List AV):Option Callee':=
 match f with
 | .func g first cap=>some (.func g (first++args++cap))
 | .yield l=>some (.yield l args)
 | _=>none
def iF (h:Hp):List ABody->Hp
 | []=>h
 | b :: l=>(iF h l).push b
def TL (C:Ctx) (r:Rec) (h:Hp):Callee'->Option CR
 | .func f args=>match C.con f args h with
  | some (nd,v,bs)=>match v.isPanic with
   | true=>none
   | false=>some ⟨nd,[⟨.tt,v,iF h bs⟩]⟩
  | none=>match C.two f args h with
   | some (nd,p,v,w)=>match v.isPanic||w.isPanic with
    | true=>none
    | false=>some ⟨nd,[⟨.b p,v,h⟩,⟨.b !p,w,h⟩]⟩
   | none=>r.call f args h
 | .yield l args=>r.yield l args h
def vZ (dst:Option Tmp) (s:St) (e:CEnt):Ent:=
 match e.v with
 | .panic a=>⟨e.g,.raise a,⟨s.tmps,s.defs,e.hp⟩⟩
 | v=>St.put ⟨s.tmps,s.defs,e.hp⟩ dst v (fun s'=>⟨e.g,.normal,s'⟩)
def u7 (dst:Option Tmp) (s:St):List CEnt->List Ent
 | []=>[]
 | e :: l=>vZ dst s e :: u7 dst s l
def xJ:List CEnt->Bool
 | []=>true
 | e :: l=>match e.v with
  | .panic a=>AV.under 0 a&&xJ l
  | _=>xJ l
def ary (C:Ctx):Callee'->Option (Nd×AV)
 | .func f args=>C.ext f args
 | _=>none
def Ha (C:Ctx) (r:Rec) (s:St) (dst:Option Tmp) (f:Operand) (args:List Operand):Option R:=
 match callee (bv C s f) (jB C s args) with
 | none=>none
 | some k=>match ary C k with
  | some (nd,v)=>St.put s dst v fun s'=>some ⟨nd,[⟨.tt,.normal,s'⟩]⟩
  | none=>match TL C r s.hp k with
   | none=>none
   | some q=>match xJ q.l with
    | true=>some ⟨q.nd,u7 dst s q.l⟩
    | false=>none
def jS (C:Ctx) (s:St) (o:Oper):Option R:=
 match dW C s o.op with
 | none=>none
 | some ⟨nd,v,h⟩=>St.put ⟨s.tmps,s.defs,h⟩ o.dst v fun s'=>some ⟨nd,[⟨.tt,.normal,s'⟩]⟩
def BG (s:St):AV->Option R
 | .iface t v=>match AV.under 0 v with
  | true=>some ⟨.tt,[⟨.tt,.raise (.iface t v),s⟩]⟩
  | false=>none
 | _=>none
def BH (C:Ctx) (r:Rec) (s:St) (o:Oper):Option R:=
 match o.op with
 | .call ⟨.value f,args,_⟩=>Ha C r s o.dst f args.toList
 | .panic x=>BG s (bv C s x)
 | _=>jS C s o
def LB (C:Ctx) (s:St) (dst:Option Tmp) (f:Operand) (args:List Operand):Option R:=
 match callee (bv C s f) (jB C s args) with
 | some (.func g as)=>St.put ⟨s.tmps,.call g as :: s.defs,s.hp⟩ dst fE fun s'=>some ⟨.tt,[⟨.tt,.normal,s'⟩]⟩
 | _=>none
def N7 (C:Ctx) (r:Rec) (s:St) (o:Oper):Option R:=
 match o.op with
 | .defer ⟨.value f,args,_⟩=>LB C s o.dst f args.toList
 | _=>BH C r s o
def wh (o:Oper):Bool:=
 match o.op with
 | .defer _=>true
 | _=>false
def xK:AV->AV->Option Nd
 | .int _ k x,.int _ c y=>if k=c then some (.p (x=y)) else none
 | .bool _ a,.bool _ b=>some (.p (a=b))
 | .str _ a,.str _ b=>some (.p (a=b))
 | _,_=>none
def Q6 (d:Nat) (v:AV) (q:Option R):Option R:=
 match q with
 | some ⟨nd,[⟨.tt,.normal,s⟩]⟩=>match nth s.tmps d with
  | some a=>match xK a.v v with
   | some m=>Gg s.tmps d ⟨s.hp.clock,v⟩ fun t=>some ⟨nd.and m,[⟨.tt,.normal,⟨t,s.defs,s.hp⟩⟩]⟩
   | none=>q
  | none=>q
 | _=>q
def J4 (C:Ctx) (r:Rec) (s:St) (o:Oper):Option R:=
 match o.dst with
 | none=>N7 C r s o
 | some d=>match C.hint s.hp.clock d with
  | none=>N7 C r s o
  | some v=>Q6 d v (N7 C r s o)
inductive Guard where
 | bad
 | go
 | skip
 | fork (d:Tmp) (p want:Bool)
def qJ (ops:Array Oper) (s:St) (o:Oper):Guard:=
 match o.guard with
 | none=>.go
 | some (j,want)=>match ops[j]? with
  | none=>.bad
  | some g=>match g.dst with
   | none=>.bad
   | some d=>match nth s.tmps d with
    | some ⟨_,.bool false p⟩=>bif p==want then .go else .skip
    | some ⟨_,.bool true p⟩=>.fork d p want
    | some ⟨_,.tuple []⟩=>.skip
    | _=>.bad
def BI (C:Ctx) (r:Rec) (ops:Array Oper):List Oper->St->Option R
 | [],s=>NY .normal s
 | o :: l,s=>GV s fun s=>match qJ ops s o with
  | .bad=>none
  | .go=>xn s (J4 C r s o) (BI C r ops l)
  | .skip=>St.put s o.dst fE (BI C r ops l)
  | .fork d p want=>
   let a:=Gg s.tmps d ⟨s.hp.clock,.bool false true⟩ fun t=>
    let c:St:=⟨t,s.defs,s.hp⟩
    bif want then xn c (J4 C r c o) (BI C r ops l) else St.put c o.dst fE (BI C r ops l)
   let b:=Gg s.tmps d ⟨s.hp.clock,.bool false false⟩ fun t=>
    let c:St:=⟨t,s.defs,s.hp⟩
    bif want then St.put c o.dst fE (BI C r ops l) else xn c (J4 C r c o) (BI C r ops l)
   match a with
   | none=>none
   | some u=>match b with
    | none=>none
    | some v=>some (NW s p u v)
structure It where
 i:Nat
 o:Oper
 k:Nat
 d:Option Tmp
 look:List Tmp
 bm:Nat
def sM (o:Oper):Nat:=
 match o.op with
 | .alloc _=>match o.guard with
  | none=>1
  | some _=>2
 | .call { callee:=.builtin .len,.. }=>0
 | .call { callee:=.builtin .min,.. }=>0
 | .call { callee:=.builtin .max,.. }=>0
 | .move _=>0
 | .pick ..=>0
 | .build ..=>0
 | .load ..=>0
 | .nilCheck _=>0
 | .binOp ..=>0
 | .unOp ..=>0
 | .convert ..=>0
 | .makeFunc ..=>0
 | .slice ..=>0
 | .fieldAddr ..=>0
 | .field ..=>0
 | .indexAddr ..=>0
 | .index ..=>0
 | .extract ..=>0
 | .lookup _ _ _ ok=>match ok with
  | true=>2
  | false=>0
 | _=>2
def qK:List Operand->List Tmp
 | []=>[]
 | .tmp t :: l=>t :: qK l
 | _ :: l=>qK l
def wm (ops:Array Oper) (o:Oper):List Tmp:=
 match o.guard with
 | none=>[]
 | some (g,_)=>match ops[g]? with
  | none=>[]
  | some x=>match x.dst with
   | none=>[]
   | some t=>[t]
def wo (ops:Array Oper) (b:Array Nat):Nat->List Oper->List It
 | _,[]=>[]
 | i,o :: l=>⟨i,o,sM o,o.dst,qK o.op.operands.toList++wm ops o,b.getD i 0⟩ :: wo ops b (i+1) l
def Er (k done:Nat):List It->Option (It×List It)
 | []=>none
 | x :: l=>match Nat.beq x.k k&&Nat.beq (Nat.land x.bm done) x.bm with
  | true=>some (x,l)
  | false=>match Er k done l with
   | none=>none
   | some (y,m)=>some (y,x :: m)
def Hd:Nat->Nat->List It->Option (List It)
 | 0,_,l=>match l with
  | []=>some []
  | _=>none
 | n+1,done,l=>match (match Er 0 done l with
   | some r=>some r
   | none=>match Er 2 done l with
    | some r=>some r
    | none=>Er 1 done l) with
  | none=>none
  | some (x,m)=>match Hd n (Nat.lor done (2 ^ x.i)) m with
   | none=>none
   | some r=>some (x :: r)
def Q7 (d:Option Tmp) (l:List Tmp):Bool:=
 match d with
 | none=>false
 | some t=>l.elem t
def TM (a b:Option Tmp):Bool:=
 match a with
 | none=>false
 | some t=>match b with
  | none=>false
  | some u=>Nat.beq t u
def He (p q:It):Bool:=
 (q.bm.testBit p.i||(!Q7 p.d q.look&&!TM p.d q.d&&!Q7 q.d p.look)) &&
 (Nat.beq q.k 2||(!Q7 q.d p.look&&!TM q.d p.d)) &&
 (Nat.beq p.k 0||Nat.beq q.k 1||q.bm.testBit p.i)
def zN:List It->Bool
 | []=>true
 | p :: l=>(Nat.beq p.k 2||!Q7 p.d p.look)&&l.all (He p)&&zN l
def LC (i:Nat):List Edge->Bool
 | []=>true
 | e :: l=>(!Region.binds .any e||Nat.blt e.on i)&&LC i l
def BJ:Nat->List Oper->Bool
 | _,[]=>true
 | i,o :: l=>LC i o.after.toList&&BJ (i+1) l
def LD (ops:Array Oper):Option (List It):=
 match Hd ops.size 0 (wo ops (Region.before ops) 0 ops.toList) with
 | none=>none
 | some l=>match zN l&&BJ 0 ops.toList with
  | true=>some l
  | false=>none
abbrev nO:=List (Nat×TypeId×AV×AV)
mutual
def eqA:AV->AV->Option Nd
 | .any c,.any d=>bif c==d then some .tt else none
 | .bool s b,.bool s' h=>bif s==s' then (match s with
  | true=>some (.p (b=h))
  | false=>bif b==h then some .tt else none) else none
 | .int s k x,.int s' v y=>bif s==s' then (if k=v then (match s with
  | true=>some (.p (x=y))
  | false=>if x=y then some .tt else none) else none) else none
 | .str s b,.str s' h=>bif s==s' then (match s with
  | true=>some (.p (b=h))
  | false=>bif qW b h then some .tt else none) else none
 | .nil,.nil=>some .tt
 | .ptr i o,.ptr j q=>bif Nat.beq i j&&Nat.beq o q then some .tt else none
 | .nilslice,.nilslice=>some .tt
 | .eslice a,.eslice b=>bif a==b then some .tt else none
 | .slice i o l c,.slice r t u c'=>bif Nat.beq i r&&Nat.beq o t&&Nat.beq l u&&Nat.beq c c' then some .tt else none
 | .gslice i o l c,.gslice r t u c'=>bif Nat.beq i r&&Nat.beq o t&&Nat.beq l u&&Nat.beq c c' then some .tt else none
 | .vslice i l,.vslice j m=>bif Nat.beq i j&&Nat.beq l m then some .tt else none
 | .pslice i l s n,.pslice j m s' k=>bif Nat.beq i j&&Nat.beq l m&&s==s' then (match s with
  | true=>some (.p (n=k))
  | false=>if n=k then some .tt else none) else none
 | .lslice i n,.lslice j k=>bif Nat.beq i j then some (.p (n=k)) else none
 | .islice w i o n,.islice w' j q k=>bif Nat.beq i j&&w==w' then some (.p (o=q/\n=k)) else none
 | .nilfunc,.nilfunc=>some .tt
 | .niliface,.niliface=>some .tt
 | .map i,.map j=>bif Nat.beq i j then some .tt else none
 | .nilmap,.nilmap=>some .tt
 | .agg l,.agg m=>LF l m
 | .tuple l,.tuple m=>LF l m
 | .func f a b,.func g c d=>if f=g then (match LF a c with
  | none=>none
  | some p=>match LF b d with
   | none=>none
   | some q=>some (p.and q)) else none
 | _,_=>none
def LF:List AV->List AV->Option Nd
 | [],[]=>some .tt
 | a :: l,b :: m=>match eqA a b with
  | none=>none
  | some p=>match LF l m with
   | none=>none
   | some q=>some (p.and q)
 | _,_=>none
end
def qm (P:Program) (h:Hp) (t:TypeId) (a:AV):Option (Nd×AV):=
 match a with
 | .tuple [m,k]=>match mG P h t m k false with
  | none=>none
  | some v=>some (.tt,v)
 | _=>qQ P h t a
def Es (P:Program) (h:Hp):nO->Option Nd
 | []=>some .tt
 | (_,t,ad,v) :: l=>match qm P h t ad with
  | none=>none
  | some (n,a)=>match eqA v a with
   | none=>none
   | some p=>match Es P h l with
    | none=>none
    | some q=>some ((n.and p).and q)
def sO (bm:Nat):nO->nO
 | []=>[]
 | x :: l=>match bm.testBit x.1 with
  | true=>sO bm l
  | false=>x :: sO bm l
def LG (C:Ctx) (s:St) (x:It) (pend:nO):Option nO:=
 match x.o.op with
 | .load t a=>match bv C s a with
  | .ptr j off=>match qQ C.P s.hp t (.ptr j off) with
   | some (_,v)=>some ((x.i,t,.ptr j off,v) :: pend)
   | none=>none
  | .vptr j off=>match qQ C.P s.hp t (.vptr j off) with
   | some (_,v)=>some ((x.i,t,.vptr j off,v) :: pend)
   | none=>none
  | _=>none
 | .lookup t m k ok=>match ok with
  | true=>some pend
  | false=>match mG C.P s.hp t (bv C s m) (bv C s k) false with
   | some v=>some ((x.i,t,.tuple [bv C s m,bv C s k],v) :: pend)
   | none=>none
 | _=>some pend
def LH (nd:Option Nd) (q:Option R):Option R:=
 match nd with
 | none=>none
 | some nd=>match q with
  | none=>none
  | some q=>some ⟨nd.and q.nd,q.l⟩
def gG (P:Program):List It->Bool
 | []=>true
 | x :: l=>(match Nat.beq x.k 1 with
  | true=>match x.o.op with
   | .alloc t=>match zeroCells P t with
    | some z=>gD z
    | none=>false
   | _=>false
  | false=>true)&&gG P l
def zO (ops:Array Oper) (s:St) (o:Oper) (go skip:St->Option R):Option R:=
 match qJ ops s o with
 | .bad=>none
 | .go=>go s
 | .skip=>skip s
 | .fork d p want=>
  let a:=Gg s.tmps d ⟨s.hp.clock,.bool false true⟩ fun t=>bif want then go ⟨t,s.defs,s.hp⟩ else skip ⟨t,s.defs,s.hp⟩
  let b:=Gg s.tmps d ⟨s.hp.clock,.bool false false⟩ fun t=>bif want then skip ⟨t,s.defs,s.hp⟩ else go ⟨t,s.defs,s.hp⟩
  match a with
  | none=>none
  | some u=>match b with
   | none=>none
   | some v=>some (NW s p u v)
def ah2 (C:Ctx) (s:St) (k:St->Option R):Option R:=
 match C.hintT s.hp.clock with
 | none=>k s
 | some (d,v)=>match nth s.tmps d with
  | some a=>match xK a.v v with
   | some m=>match Gg s.tmps d ⟨s.hp.clock,v⟩ fun t=>k ⟨t,s.defs,s.hp⟩ with
    | none=>none
    | some q=>some ⟨m.and q.nd,q.l⟩
   | none=>k s
  | none=>k s
def qZ (c:Nat) (ds:List Nat):Nat->List AT->List AT
 | _,[]=>[]
 | i,a :: l=>(bif ds.elem i then ⟨c,.any false⟩ else a) :: qZ c ds (i+1) l
def Et:List Oper->List Nat
 | []=>[]
 | o :: l=>match o.dst with
  | none=>Et l
  | some d=>d :: Et l
def zP (ops:List Oper) (e:Ent):Ent:=
 match e.x with
 | .raise a=>⟨e.g,.raise a,⟨qZ e.s.hp.clock (Et ops) 0 e.s.tmps,e.s.defs,e.s.hp⟩⟩
 | _=>e
def BK (ops:List Oper):Option R->Option R
 | none=>none
 | some ⟨nd,[⟨.tt,.normal,s⟩]⟩=>some ⟨nd,[⟨.tt,.normal,s⟩]⟩
 | some ⟨nd,l⟩=>some ⟨nd,l.map (zP ops)⟩
def xL (C:Ctx) (r:Rec) (ops:Array Oper):List It->nO->St->Option R
 | [],_,s=>NY .normal s
 | x :: l,pend,s=>GV s fun s=>ah2 C s fun s=>match Nat.beq x.k 2 with
  | true=>zO ops s x.o
    (fun s=>xn s (BK ops.toList (BH C r s x.o)) fun b=>LH (Es C.P b.hp (sO x.bm pend)) (xL C r ops l (sO x.bm pend) b))
    (fun s=>St.put s x.o.dst fE (xL C r ops l (sO x.bm pend)))
  | false=>zO ops s x.o
    (fun s=>match LG C s x pend with
     | none=>none
     | some a=>xn s (jS C s x.o) (xL C r ops l a))
    (fun s=>St.put s x.o.dst fE (xL C r ops l pend))
def ut (id:Nat) (e:Ent):Ent:=
 match e.x with
 | .exit i=>bif Nat.beq i id then ⟨e.g,.normal,e.s⟩ else e
 | _=>e
def AO (s0:St) (id:Nat):List Ent->List Ent
 | []=>[]
 | e :: l=>GZ s0 (ut id e) (AO s0 id l)
def Gn (a:Code):List Ent->Bool
 | []=>true
 | e :: l=>(match e.x with
  | .goto i=>match findLabel a i with
   | none=>true
   | some _=>false
  | _=>true)&&Gn a l
def XN:Option Code->Option Ex
 | none=>some .normal
 | some .ret=>some .ret
 | some (.exit i)=>some (.exit i)
 | some (.goto i)=>some (.goto i)
 | _=>none
def BL (s:St) (l:Nat) (e:CEnt):Option Ent:=
 match e.v.isPanic with
 | true=>none
 | false=>match e.hp.get l with
  | some ⟨_,.loop a⟩=>match a.state with
   | .busy=>none
   | _=>match XN a.pending with
    | none=>none
    | some x=>e.hp.set l (.loop { a with state:=.exhausted }) fun h=>some ⟨e.g,x,⟨s.tmps,s.defs,h⟩⟩
  | _=>none
def BM (s:St) (l:Nat):List CEnt->Option (List Ent)
 | []=>some []
 | e :: m=>match BL s l e,BM s l m with
  | some a,some b=>some (a :: b)
  | _,_=>none
def Q8 (fr:AFr) (s:St):Option (Nat×List ADef×Hp):=
 match fr.round with
 | some l=>match s.hp.get l with
  | some ⟨_,.loop a⟩=>some (a.defers,[],s.hp)
  | _=>none
 | none=>some (s.hp.size,[.collected s.hp.size],s.hp.push (.defers false))
def XO (q:Option R):R:=
 match q with
 | none=>⟨.p False,[]⟩
 | some q=>q
def XP (r:Rec) (fr:AFr) (x:AV) (a b:Code) (s:St):Option R:=
 match x with
 | .bool false p=>bif p then r.code fr a s else r.code fr b s
 | .bool true p=>GV s fun s=>some (NW s p (XO (r.code fr a s)) (XO (r.code fr b s)))
 | _=>none
def LJ (C:Ctx) (r:Rec) (fr:AFr) (f:AV) (params:List Tmp) (assign body:Code) (s:St):Option R:=
 match Q8 fr s with
 | none=>none
 | some (d,mark,h)=>match f with
  | .func g first cap=>
   let l:=h.size
   let a:=h.push (.loop { state:=.ready,pending:=none,fn:=fr.fn,tmps:=s.tmps,params,assign,body,defers:=d })
   match TL C r a (.func g (first++[.yield l]++cap)) with
   | none=>none
   | some q=>match BM ⟨s.tmps,mark++s.defs,a⟩ l q.l with
    | none=>none
    | some m=>some ⟨q.nd,m⟩
  | _=>none
def Hf (a:Code):Option R->Option R
 | none=>none
 | some q=>match Gn a q.l with
  | true=>some q
  | false=>none
def Hg (C:Ctx) (r:Rec) (fr:AFr) (c:Code) (s:St):Option R:=
 match c with
 | .skip=>NY .normal s
 | .label _=>NY .normal s
 | .ret=>NY .ret s
 | .exit i=>NY (.exit i) s
 | .goto i=>NY (.goto i) s
 | .seq a b=>xn s (r.code fr a s) (r.code fr b)
 | .region _ ops false=>match fr.round with
  | none=>BI C r ops ops.toList s
  | some _=>match ops.toList.any wh with
   | true=>none
   | false=>BI C r ops ops.toList s
 | .region _ ops true=>match LD ops with
  | none=>none
  | some l=>match gG C.P l with
   | true=>xL C r ops l [] s
   | false=>none
 | .cond x a b=>XP r fr (bv C s x) a b s
 | .block i a=>GV s fun s=>match r.code fr a s with
  | none=>none
  | some ⟨nd,l⟩=>some ⟨nd,BD (AO s i l)⟩
 | .scope a=>Hf a (r.code fr a s)
 | .loop a=>match C.loop fr a s with
  | some q=>some q
  | none=>xn s (r.code fr a s) (r.code fr (.loop a))
 | .rangeFunc f params assign body=>LJ C r fr (bv C s f) params.toList assign body s
 | _=>none
def LM (n:Nat):List AT->Bool
 | []=>true
 | a :: l=>AV.under n a.v&&LM n l
def nR (e:ABlk) (c n:Nat):Bool:=
 match Nat.blt e.wr c with
 | true=>true
 | false=>match e.body with
  | .cells l=>AV.underL n l
  | .grown l=>AV.underL n l
  | .ints _ _=>true
  | .defers _=>true
  | .dead=>true
  | .map _=>false
  | .view _=>false
  | .hold _=>false
  | .rows _ _=>true
  | .loop a=>Nat.blt a.defers n&&LM n a.tmps
def xM (c n:Nat):List ABlk->Bool
 | []=>true
 | e :: l=>nR e c n&&xM c n l
mutual
def AV.refs (n:Nat) (acc:List Nat):AV->List Nat
 | .ptr i _=>bif Nat.blt i n||acc.elem i then acc else acc++[i]
 | .slice i _ _ _=>bif Nat.blt i n||acc.elem i then acc else acc++[i]
 | .gslice i _ _ _=>bif Nat.blt i n||acc.elem i then acc else acc++[i]
 | .func _ E cs=>AV.refsL n (AV.refsL n acc E) cs
 | .yield l=>bif Nat.blt l n||acc.elem l then acc else acc++[l]
 | .iface _ v=>AV.refs n acc v
 | .map i=>bif Nat.blt i n||acc.elem i then acc else acc++[i]
 | .vslice i _=>bif Nat.blt i n||acc.elem i then acc else acc++[i]
 | .pslice i _ _ _=>bif Nat.blt i n||acc.elem i then acc else acc++[i]
 | .lslice i _=>bif Nat.blt i n||acc.elem i then acc else acc++[i]
 | .islice _ i _ _=>bif Nat.blt i n||acc.elem i then acc else acc++[i]
 | .panic v=>AV.refs n acc v
 | .vptr i _=>bif Nat.blt i n||acc.elem i then acc else acc++[i]
 | .agg l=>AV.refsL n acc l
 | .tuple l=>AV.refsL n acc l
 | .any _=>acc
 | .bool _ _=>acc
 | .int _ _ _=>acc
 | .str _ _=>acc
 | .nil=>acc
 | .nilslice=>acc
 | .eslice _=>acc
 | .nilfunc=>acc
 | .niliface=>acc
 | .nilmap=>acc
def AV.refsL (n:Nat) (acc:List Nat):List AV->List Nat
 | []=>acc
 | a :: l=>AV.refsL n (AV.refs n acc a) l
end
def Aq (n:Nat) (ids:List Nat) (i:Nat):Nat:=bif Nat.blt i n then i else cz (n+ids.idxOf i) fun j=>j
mutual
def AV.ren (ρ:Nat->Nat):AV->AV
 | .ptr i o=>.ptr (ρ i) o
 | .slice i o l c=>.slice (ρ i) o l c
 | .gslice i o l c=>.gslice (ρ i) o l c
 | .func f E cs=>.func f (AV.renL ρ E) (AV.renL ρ cs)
 | .yield l=>.yield (ρ l)
 | .iface t v=>.iface t (AV.ren ρ v)
 | .map i=>.map (ρ i)
 | .vslice i l=>.vslice (ρ i) l
 | .pslice i l s k=>.pslice (ρ i) l s k
 | .lslice i k=>.lslice (ρ i) k
 | .islice w i o k=>.islice w (ρ i) o k
 | .panic v=>.panic (AV.ren ρ v)
 | .vptr i o=>.vptr (ρ i) o
 | .agg l=>.agg (AV.renL ρ l)
 | .tuple l=>.tuple (AV.renL ρ l)
 | .any c=>.any c
 | .bool s b=>.bool s b
 | .int s k x=>.int s k x
 | .str s b=>.str s b
 | .nil=>.nil
 | .nilslice=>.nilslice
 | .eslice b=>.eslice b
 | .nilfunc=>.nilfunc
 | .niliface=>.niliface
 | .nilmap=>.nilmap
def AV.renL (ρ:Nat->Nat):List AV->List AV
 | []=>[]
 | a :: l=>AV.ren ρ a :: AV.renL ρ l
end
def pick (h:Hp) (n:Nat):List Nat->List ABlk->Option (List ABlk)
 | [],acc=>some acc
 | i :: l,acc=>match h.get i with
  | some ⟨w,.cells m⟩=>match AV.underL n m with
   | true=>pick h n l (⟨w,.cells m⟩ :: acc)
   | false=>none
  | some ⟨w,.grown m⟩=>match AV.underL n m with
   | true=>pick h n l (⟨w,.grown m⟩ :: acc)
   | false=>none
  | some ⟨w,.ints k m⟩=>pick h n l (⟨w,.ints k m⟩ :: acc)
  | some ⟨w,.rows k m⟩=>pick h n l (⟨w,.rows k m⟩ :: acc)
  | _=>none
def gc (n c:Nat) (v:AV) (h:Hp):AV×Hp:=
 match Nat.beq h.size n with
 | true=>(v,h)
 | false=>
  let old:=fo (h.size - n) h.blks
  match xM c n old with
  | true=>match AV.refs n [] v with
   | []=>(v,⟨old,n,h.clock⟩)
   | ids=>match pick h n ids old with
    | some l=>(AV.ren (Aq n ids) v,⟨l,n+ids.length,h.clock⟩)
    | none=>(v,h)
  | false=>(v,h)
def AP:Nat->List AT
 | 0=>[]
 | n+1=>⟨0,fE⟩ :: AP n
def N8:List AV->List AT
 | []=>[]
 | v :: l=>⟨0,v⟩ :: N8 l
def Jy (P:Program) (tm:List AT) (h:Hp):List ResultVar->Option (Nd×List AV)
 | []=>some (.tt,[])
 | .tmp t :: l=>match nth tm t with
  | none=>none
  | some a=>match Jy P tm h l with
   | none=>none
   | some (nd,r)=>some (nd,a.v :: r)
 | .cell a t :: l=>match nth tm a with
  | none=>none
  | some x=>match qQ P h t x.v with
   | none=>none
   | some (m,y)=>match Jy P tm h l with
    | none=>none
    | some (nd,r)=>some (m.and nd,y :: r)
def tup:List AV->AV
 | [v]=>v
 | l=>.tuple l
def zQ:List ADef->Hp->Option Hp
 | [],h=>some h
 | .collected i :: l,h=>match h.get i with
  | some ⟨_,.defers false⟩=>h.set i (.defers true) fun h=>zQ l h
  | _=>none
 | .call _ _ :: _,_=>none
def an0:Option AV->AV
 | none=>.niliface
 | some a=>a
def LP (C:Ctx) (r:Rec) (ops:Array Oper) (p:Option AV):List Oper->St->Option R
 | [],_=>none
 | o :: l,s=>match o.guard with
  | some _=>none
  | none=>match o.op with
   | .call ⟨.builtin .recover,_,_⟩=>St.put s o.dst (an0 p) (BI C r ops l)
   | _=>match jS C s o with
    | some ⟨nd,[⟨.tt,.normal,a⟩]⟩=>match LP C r ops p l a with
     | none=>none
     | some q=>some ⟨nd.and q.nd,q.l⟩
    | _=>none
def LQ (C:Ctx) (r:Rec) (fr:AFr) (p:Option AV):Code->St->Option R
 | .seq a b,s=>xn s (LQ C r fr p a s) (r.code fr b)
 | .block i a,s=>GV s fun s=>match LQ C r fr p a s with
  | none=>none
  | some ⟨nd,l⟩=>some ⟨nd,BD (AO s i l)⟩
 | .scope a,s=>Hf a (LQ C r fr p a s)
 | .region _ ops false,s=>match fr.round with
  | none=>LP C r ops p ops.toList s
  | some _=>none
 | _,_=>none
def Vz (C:Ctx) (n c:Nat) (fn:Func) (e:Ent):Option (Nd×CEnt):=
 match e.x with
 | .normal=>endR C n c fn e
 | .ret=>endR C n c fn e
 | _=>none
where endR (C:Ctx) (n c:Nat) (fn:Func) (e:Ent):Option (Nd×CEnt):=
 match zQ e.s.defs e.s.hp with
 | none=>none
 | some h=>match Jy C.P e.s.tmps h fn.results.toList with
  | none=>none
  | some (nd,_)=>some (nd,⟨e.g,.nil,(gc n c .nil h).2⟩)
def TN (C:Ctx) (n c:Nat) (fn:Func):List Ent->Option (Nd×List CEnt)
 | []=>some (.tt,[])
 | e :: l=>match Vz C n c fn e,TN C n c fn l with
  | some (nd,a),some (m,r)=>some ((e.g.on fun p=>Nd.imp (p=true) nd).and m,a :: r)
  | _,_=>none
def XQ:Bool->Bool->Bool
 | true,b=>b
 | false,true=>false
 | false,false=>true
def adA:AV->AV->Bool
 | .tuple l,.tuple m=>match NV l with
  | none=>false
  | some x=>match NV m with
   | none=>false
   | some y=>match decide (x=y) with
    | true=>false
    | false=>true
 | _,_=>false
def Q9 (pt:Bool) (s0:St) (g:Bool) (a b:CEnt):Option CEnt:=
 match XQ a.v.isPanic b.v.isPanic&&!(pt&&adA a.v b.v) with
 | false=>none
 | true=>match qX s0 g ⟨[⟨s0.hp.clock,a.v⟩],[],a.hp⟩ ⟨[⟨s0.hp.clock,b.v⟩],[],b.hp⟩ with
  | some ⟨[t],_,h⟩=>match XQ t.v.isPanic a.v.isPanic with
   | true=>some ⟨.tt,t.v,h⟩
   | false=>none
  | _=>none
def Ra (pt:Bool) (s0:St) (e:CEnt):List CEnt->List CEnt
 | []=>[e]
 | f :: l=>match e.g.on fun p=>Q9 pt s0 p e f with
  | some c=>⟨G.or e.g f.g,c.v,c.hp⟩ :: l
  | none=>f :: Ra pt s0 e l
def Hl (pt:Bool) (s0:St):List CEnt->List CEnt
 | []=>[]
 | e :: l=>Ra pt s0 e (Hl pt s0 l)
def N9:List CEnt->List CEnt
 | [e]=>[⟨.tt,e.v,e.hp⟩]
 | l=>l
def Rb (C:Ctx) (r:Rec) (f:FuncId) (args:List AV) (p:Option AV) (h:Hp):Option (Nd×Hp):=
 match C.P.funcs[f]? with
 | none=>none
 | some fn=>match fn.body with
  | none=>none
  | some c=>cz (h.clock+1) fun ck=>
   let h:=⟨h.blks,h.size,ck⟩
   match LQ C r ⟨f,none⟩ p c ⟨N8 args++AP (fn.ntmps - args.length),[],h⟩ with
   | none=>none
   | some q=>match TN C h.size ck fn q.l with
    | none=>none
    | some (nd,l)=>match N9 (Hl false ⟨[⟨0,fE⟩],[],h⟩ l) with
     | [⟨.tt,_,k⟩]=>some (q.nd.and nd,k)
     | _=>none
def Eu (C:Ctx) (r:Rec):List ADef->Option AV->Hp->Option (Nd×Option AV×Hp)
 | [],p,h=>some (.tt,p,h)
 | .collected i :: l,p,h=>match h.get i with
  | some ⟨_,.defers false⟩=>h.set i (.defers true) fun h=>Eu C r l p h
  | _=>none
 | .call f as :: l,p,h=>match Rb C r f as p h with
  | none=>none
  | some (nd,k)=>match Eu C r l none k with
   | none=>none
   | some (m,a,b)=>some (nd.and m,a,b)
def ai1:Ex->Option (Option AV)
 | .normal=>some none
 | .ret=>some none
 | .raise a=>some (some a)
 | _=>none
def adB (C:Ctx) (r:Rec) (n c:Nat) (fn:Func) (e:Ent):Option (Nd×CEnt):=
 match ai1 e.x with
 | none=>none
 | some p=>match Eu C r e.s.defs p e.s.hp with
  | none=>none
  | some (nd,some a,h)=>let w:=gc n c (.panic a) h;some (nd,⟨e.g,w.1,w.2⟩)
  | some (nd,none,h)=>match Jy C.P e.s.tmps h fn.results.toList with
   | none=>none
   | some (m,b)=>let v:=tup b;match v.isPanic with
    | true=>none
    | false=>let w:=gc n c v h;some (nd.and m,⟨e.g,w.1,w.2⟩)
def adC (C:Ctx) (r:Rec) (n c:Nat) (fn:Func):List Ent->Option (Nd×List CEnt)
 | []=>some (.tt,[])
 | e :: l=>match adB C r n c fn e,adC C r n c fn l with
  | some (nd,a),some (m,r)=>some ((e.g.on fun p=>Nd.imp (p=true) nd).and m,a :: r)
  | _,_=>none
def XR (C:Ctx) (r:Rec) (f:FuncId) (args:List AV) (h:Hp):Option CR:=
 match C.P.funcs[f]? with
 | none=>none
 | some fn=>match fn.body with
  | none=>none
  | some c=>cz (h.clock+1) fun ck=>
   let h:=⟨h.blks,h.size,ck⟩
   match r.code ⟨f,none⟩ c ⟨N8 args++AP (fn.ntmps - args.length),[],h⟩ with
   | none=>none
   | some q=>match adC C r h.size ck fn q.l with
    | none=>none
    | some (nd,l)=>some ⟨q.nd.and nd,N9 (Hl (C.part f) ⟨[⟨0,fE⟩],[],h⟩ l)⟩
def LU:List Tmp->List AV->List AT->Option (List AT)
 | [],[],t=>some t
 | p :: b,a :: as,t=>Gg t p ⟨0,a⟩ fun t=>LU b as t
 | _,_,_=>none
def XT:Ex->Option Code
 | .normal=>none
 | .ret=>some .ret
 | .exit i=>some (.exit i)
 | .goto i=>some (.goto i)
 | .raise _=>none
def zR (n c l:Nat) (e:Ent):Option CEnt:=
 match e.s.hp.get l with
 | some ⟨_,.loop a⟩=>match e.x with
  | .normal=>e.s.hp.set l (.loop { a with state:=.ready,pending:=none }) fun h=>some ⟨e.g,.bool false true,(gc n c (.bool false true) h).2⟩
  | .raise _=>none
  | x=>e.s.hp.set l (.loop { a with state:=.done,pending:=XT x }) fun h=>some ⟨e.g,.bool false false,(gc n c (.bool false false) h).2⟩
 | _=>none
def zS (n c l:Nat):List Ent->Option (List CEnt)
 | []=>some []
 | e :: m=>match zR n c l e,zS n c l m with
  | some a,some b=>some (a :: b)
  | _,_=>none
def Re (r:Rec) (l:Nat) (args:List AV) (h:Hp):Option CR:=
 match h.get l with
 | some ⟨_,.loop a⟩=>match LU a.params args a.tmps with
  | none=>none
  | some t=>cz (h.clock+1) fun ck=>
   let h:=⟨h.blks,h.size,ck⟩
   let fr:AFr:=⟨a.fn,some l⟩
   match r.code fr a.assign ⟨t,[],h⟩ with
   | some ⟨nd,[⟨.tt,.normal,s⟩]⟩=>match s.hp.get l with
    | some ⟨_,.loop b⟩=>match b.state with
     | .ready=>s.hp.set l (.loop { b with state:=.busy }) fun h2=>
      match r.code fr b.body ⟨s.tmps,s.defs,h2⟩ with
      | none=>none
      | some q=>match zS h.size ck l q.l with
       | none=>none
       | some m=>some ⟨nd.and q.nd,N9 (Hl false ⟨[⟨0,fE⟩],[],h⟩ m)⟩
     | _=>none
    | _=>none
   | _=>none
 | _=>none
def adD (C:Ctx) (r:Rec):Rec:=⟨Hg C r,XR C r,Re r⟩
def adE:Rec:=⟨fun _ _ _=>none,fun _ _ _=>none,fun _ _ _=>none⟩
def run (C:Ctx) (n:Nat):Rec:=Nat.rec adE (fun _ r=>adD C r) n
end
end Go.Eng
namespace Go.Eng
abbrev Sg:=Nat->Option (Nat×Nat)
def Sub (σ τ:Sg):Prop:=∀ i x,σ i=some x->τ i=some x
theorem Sub.refl (σ:Sg):Sub σ σ:=fun _ _ h=>h
theorem Sub.trans {σ τ υ:Sg} (h:Sub σ τ) (k:Sub τ υ):Sub σ υ:=fun i x e=>k i x (h i x e)
def ISl (w:Bool) (o:Int) (c b N:Nat) (p:Option Addr):Prop:=∃ q:Nat,p=some ⟨b,q,none⟩/\(q:Int)=(bif w then 0 else (N:Int))+o/\(w=true->q+c<=N)
mutual
def VRel (σ:Sg):AV->Value->Prop
 | .any false,_=>True
 | .any true,v=>(∀ c,v≠.agg c)/\(∀ c,v≠.tuple c)
 | .bool _ b,v=>v=.bool b
 | .int _ k n,v=>v=.int k n
 | .str _ b,v=>v=.string b
 | .nil,v=>v=.pointer none
 | .ptr i o,v=>∃ b N,σ i=some (b,N)/\v=.pointer (some ⟨b,o,none⟩)
 | .nilslice,v=>v=.slice none 0 0
 | .eslice b,v=>∃ a c,v=.slice a 0 c/\a.isNone=b
 | .slice i o l c,v=>∃ b N,σ i=some (b,N)/\v=.slice (some ⟨b,o,none⟩) l c
 | .gslice i o l e,v=>∃ b N q c,σ i=some (b,N)/\v=.slice (some ⟨b,q,none⟩) l c/\(l≠0->q=o/\q+c*e<=N)/\l<=c
 | .func f d cs,v=>∃ F K,v=.func (.func f) F K/\VRels σ d F.toList/\VRels σ cs K.toList
 | .yield l,v=>∃ b N,σ l=some (b,N)/\v=.func (.yield b) #[] #[]
 | .nilfunc,v=>v=.nilFunc
 | .iface t a,v=>∃ x,v=.iface t x/\VRel σ a x
 | .niliface,v=>v=.nilIface
 | .map i,v=>∃ b N,σ i=some (b,N)/\v=.map (some b)
 | .nilmap,v=>v=.map none
 | .vslice i l,v=>∃ b N c,σ i=some (b,N)/\v=.slice (some ⟨b,N,none⟩) l c
 | .pslice i l _ n,v=>∃ p len c,v=.slice p len c/\((len:Int)=n/\len<=c)/\l<=len/\(l=0\/∃ b N,σ i=some (b,N)/\p=some ⟨b,N,none⟩)
 | .lslice i n,v=>∃ p len c,v=.slice p len c/\((len:Int)=n/\len<=c)/\(len=0\/∃ b N,σ i=some (b,N)/\p=some ⟨b,N,none⟩)
 | .islice w i o n,v=>∃ p len c,v=.slice p len c/\((len:Int)=n/\len<=c)/\(len=0\/∃ b N,σ i=some (b,N)/\ISl w o c b N p)
 | .panic a,v=>VRel σ a v
 | .vptr i o,v=>∃ b N,σ i=some (b,N)/\v=.pointer (some ⟨b,N+o,none⟩)
 | .agg l,v=>∃ K,v=.agg K/\VRels σ l K.toList
 | .tuple l,v=>∃ K,v=.tuple K/\VRels σ l K.toList
def VRels (σ:Sg):List AV->List Value->Prop
 | [],l=>l=[]
 | a :: as,l=>∃ v b,l=v :: b/\VRel σ a v/\VRels σ as b
end
mutual
theorem VRel.mono {σ τ:Sg} (h:Sub σ τ):∀ (a:AV) (v:Value),VRel σ a v->VRel τ a v
 | .any false,_,_=>trivial
 | .any true,_,e=>e
 | .bool _ _,_,e=>e
 | .int _ _ _,_,e=>e
 | .str _ _,_,e=>e
 | .nil,_,e=>e
 | .ptr _ _,_,⟨b,N,e,r⟩=>⟨b,N,h _ _ e,r⟩
 | .nilslice,_,e=>e
 | .eslice _,_,e=>e
 | .slice _ _ _ _,_,⟨b,N,e,r⟩=>⟨b,N,h _ _ e,r⟩
 | .gslice _ _ _ _,_,⟨b,N,q,c,e,r⟩=>⟨b,N,q,c,h _ _ e,r⟩
 | .func _ O cs,_,⟨F,K,e,r,s⟩=>⟨F,K,e,VRels.mono h O _ r,VRels.mono h cs _ s⟩
 | .yield _,_,⟨b,N,e,r⟩=>⟨b,N,h _ _ e,r⟩
 | .nilfunc,_,e=>e
 | .iface _ a,_,⟨x,e,r⟩=>⟨x,e,VRel.mono h a _ r⟩
 | .niliface,_,e=>e
 | .map _,_,⟨b,N,e,r⟩=>⟨b,N,h _ _ e,r⟩
 | .nilmap,_,e=>e
 | .vslice _ _,_,⟨b,N,c,e,r⟩=>⟨b,N,c,h _ _ e,r⟩
 | .pslice _ _ _ _,_,⟨p,len,c,E,J,e3,r⟩=>⟨p,len,c,E,J,e3,r.imp id fun ⟨b,N,h1,h2⟩=>⟨b,N,h _ _ h1,h2⟩⟩
 | .lslice _ _,_,⟨p,len,c,E,J,r⟩=>⟨p,len,c,E,J,r.imp id fun ⟨b,N,h1,h2⟩=>⟨b,N,h _ _ h1,h2⟩⟩
 | .islice _ _ _ _,_,⟨p,len,c,E,J,r⟩=>⟨p,len,c,E,J,r.imp id fun ⟨b,N,h1,h2⟩=>⟨b,N,h _ _ h1,h2⟩⟩
 | .panic a,v,e=>VRel.mono h a v e
 | .vptr _ _,_,⟨b,N,e,r⟩=>⟨b,N,h _ _ e,r⟩
 | .agg l,_,⟨K,e,r⟩=>⟨K,e,VRels.mono h l _ r⟩
 | .tuple l,_,⟨K,e,r⟩=>⟨K,e,VRels.mono h l _ r⟩
theorem VRels.mono {σ τ:Sg} (h:Sub σ τ):∀ (l:List AV) (L:List Value),VRels σ l L->VRels τ l L
 | [],_,e=>e
 | a :: l,_,⟨v,E,e,r,s⟩=>⟨v,E,e,VRel.mono h a _ r,VRels.mono h l _ s⟩
end
theorem VRels.length {σ:Sg}:∀ {l:List AV} {L:List Value},VRels σ l L->L.length=l.length
 | [],_,e=>by rw [show _=[] from e];rfl
 | a :: l,_,⟨v,E,e,_,s⟩=>by rw [e];simp [VRels.length s]
theorem VRels.append {σ:Sg}:∀ {l m:List AV} {L M:List Value},VRels σ l L->VRels σ m M->VRels σ (l++m) (L++M)
 | [],m,_,M,e,h=>by rw [show _=[] from e];exact h
 | a :: l,m,_,M,⟨v,E,e,r,s⟩,h=>by rw [e];exact ⟨v,E++M,rfl,r,VRels.append s h⟩
theorem VRels.nth {σ:Sg}:∀ {l:List AV} {L:List Value} {n:Nat} {a:AV},VRels σ l L->nth l n=some a->∃ v,L[n]?=some v/\VRel σ a v
 | [],_,n,a,_,h=>by cases n <;> cases h
 | x :: l,_,0,a,⟨v,E,e,r,s⟩,h=>by cases h;exact ⟨v,by rw [e];rfl,r⟩
 | x :: l,_,n+1,a,⟨v,E,e,r,s⟩,h=>by
  obtain ⟨u,h1,h2⟩:=VRels.nth (n:=n) s h;exact ⟨u,by rw [e];simpa using h1,h2⟩
theorem VRels.drop {σ:Sg}:∀ (n:Nat) {l:List AV} {L:List Value},VRels σ l L->VRels σ (fo n l) (L.drop n)
 | 0,l,L,h=>h
 | n+1,[],_,h=>by rw [show _=[] from h];exact rfl
 | n+1,a :: l,_,⟨v,E,e,r,s⟩=>by rw [e];exact VRels.drop n s
theorem VRels.take {σ:Sg}:∀ (n:Nat) {l m:List AV} {L:List Value},VRels σ l L->iK n l=some m->VRels σ m (L.take n)/\m.length=n
 | 0,l,m,L,_,h=>by cases h;exact ⟨rfl,rfl⟩
 | n+1,[],m,L,_,h=>by cases h
 | n+1,a :: l,m,_,⟨v,E,e,r,s⟩,h=>by
  simp only [iK] at h
  cases h1:iK n l with
  | none=>rw [h1] at h;cases h
  | some q=>
   rw [h1] at h;cases h;obtain ⟨h2,h3⟩:=VRels.take n s h1;exact ⟨by rw [e];exact ⟨v,E.take n,rfl,r,h2⟩,by simp [h3]⟩
theorem q9 {α b:Type} (l:List α) (n:Nat) (v:α) (k:List α->b):Gg l n v k=k (l.set n v):=by
 induction l generalizing n k with
 | nil=>rfl
 | cons a l c=>cases n with
  | zero=>rfl
  | succ n=>exact c n fun d=>k (a :: d)
theorem LV {α b:Type} (l m:List α) (k:List α->b):Vu l m k=k (l++m):=by
 induction l generalizing k with
 | nil=>rfl
 | cons a l c=>simp [Vu,c]
@[simp] theorem cK {a:Type} (n:Nat) (k:Nat->a):cz n k=k n:=by cases n <;> rfl
@[simp] theorem Fs {a:Type} (n:Int) (k:Int->a):xA n k=k n:=by cases n <;> simp [xA]
@[simp] theorem mkInt_rel {σ:Sg} (s:Bool) (k:IntKind) (n:Int) (v:Value):VRel σ (gB s k n) v ↔ v=.int k n:=by cases s <;> simp [gB,VRel]
@[simp] theorem Hm {σ:Sg} (s:Bool) (b:Bool) (v:Value):VRel σ (o6 s b) v ↔ v=.bool b:=by cases s <;> cases b <;> simp [o6,VRel]
theorem VRels.set {σ:Sg}:∀ {l:List AV} {L:List Value} (n:Nat) {a:AV} {v:Value},VRels σ l L->VRel σ a v->VRels σ (l.set n a) (L.set n v)
 | [],_,_,_,_,e,_=>by rw [show _=[] from e];exact rfl
 | x :: l,_,0,a,v,⟨u,E,e,r,s⟩,h=>by rw [e];exact ⟨v,E,rfl,h,s⟩
 | x :: l,_,n+1,a,v,⟨u,E,e,r,s⟩,h=>by rw [e];exact ⟨u,_,rfl,r,VRels.set n s h⟩
theorem iX {α:Type}:∀ (l:List α) (n:Nat),nth l n=l[n]?
 | [],n=>by cases n <;> rfl
 | a :: l,0=>rfl
 | a :: l,n+1=>(iX l n).trans (by simp)
theorem nU {α:Type}:∀ (n:Nat) (l:List α),fo n l=l.drop n
 | 0,l=>rfl
 | n+1,[]=>rfl
 | n+1,a :: l=>by simpa [fo] using nU n l
theorem Hp.get_eq (h:Hp) (i:Nat):h.get i=if i<h.size then h.blks[h.size - 1 - i]? else none:=by
 unfold Hp.get;by_cases E:i<h.size
 .have:Nat.ble h.size i=false:=by
   rw [kQ];intro e;have:=dI e;omega
  rw [this];simp [E,iX]
 .have:Nat.ble h.size i=true:=Nat.ble_eq_true_of_le (by omega);rw [this];simp [E]
def Hp.ok (h:Hp):Prop:=h.blks.length=h.size
def Hp.put (h:Hp) (i:Nat) (b:ABody):Hp:=⟨h.blks.set (h.size - 1 - i) ⟨h.clock,b⟩,h.size,h.clock⟩
theorem Hp.set_eq {E:Type} (h:Hp) (i:Nat) (b:ABody) (k:Hp->E):h.set i b k=k (h.put i b):=by simp [Hp.set,Hp.put,q9]
theorem Hp.get_lt {h:Hp} {i:Nat} {b:ABlk} (e:h.get i=some b):i<h.size:=by
 rw [Hp.get_eq] at e;by_cases E:i<h.size
 .exact E
 .simp [E] at e
theorem Hp.get_put {h:Hp} (J:h.ok) (i j:Nat) (hi:i<h.size) (b:ABody):(h.put i b).get j=if j=i then some ⟨h.clock,b⟩ else h.get j:=by
 rw [Hp.get_eq,Hp.get_eq];simp only [Hp.put];by_cases E:j<h.size
 .simp only [E,bn];by_cases e:j=i
  .subst e;simp only [bn];rw [gZ (by rw [J];omega)]
  .simp only [e,bz];rw [iM (by omega)]
 .have:j≠i:=by omega
  simp [E,this]
theorem Hp.ok_put {h:Hp} (E:h.ok) (i:Nat) (b:ABody):(h.put i b).ok:=by simp [Hp.ok,Hp.put];exact E
theorem Hp.get_push {h:Hp} (b:ABody) (j:Nat):(h.push b).get j=if j=h.size then some ⟨h.clock,b⟩ else h.get j:=by
 rw [Hp.get_eq,Hp.get_eq];simp only [Hp.push];by_cases e:j=h.size
 .subst e;simp
 .by_cases E:j<h.size
  .have:j<h.size+1:=by omega
   simp only [this,bn,e,bz,E];rw [show h.size+1 - 1 - j=(h.size - 1 - j)+1 by omega];simp
  .have:¬ j<h.size+1:=by omega
   simp [this,e,E]
theorem Hp.ok_push {h:Hp} (E:h.ok) (b:ABody):(h.push b).ok:=by simp [Hp.ok,Hp.push];exact E
def TRel (σ:Sg) (ts:List AT) (T:Array Value):Prop:=VRels σ (ts.map (·.v)) T.toList
def BRel (σ:Sg) (N:Nat):ABody->Obj->Prop
 | .dead,_=>True
 | .cells l,o=>∃ K e,o=.cells K e (0,0)/\VRels σ l K.toList/\N=K.size
 | .view l,o=>∃ K e fr,o=.cells K e fr/\VRels σ l ((K.toList.drop N).take l.length)
 | .hold l,o=>∃ K e fr,o=.cells K e fr/\VRels σ l K.toList
 | .rows k xs,o=>∃ K e fr,o=.cells K e fr/\(K.toList.drop N).take xs.length=xs.map (Value.int k)
 | .grown l,o=>∃ K e A B,o=.cells K e (0,0)/\K.toList=A++B/\VRels σ l A/\N=K.size
 | .ints k xs,o=>∃ K e B,o=.cells K e (0,0)/\K.toList=xs.map (Value.int k)++B/\N=K.size
 | .map es,o=>∃ (E:Array MapEntry) (c:Nat) (a:List (AV×AV)),o=.map E c/\a.Perm es/\(es.map (·.1)).Nodup/\VRels σ (a.map (·.1)) (E.toList.map (·.key))/\VRels σ (a.map (·.2)) (E.toList.map (·.val))
 | .loop r,o=>∃ L,o=.loop L/\L.state=r.state/\L.pending=r.pending/\L.fn=r.fn/\TRel σ r.tmps L.tmps/\L.params.toList=r.params/\L.assign=r.assign/\L.body=r.body/\∃ M,σ r.defers=some (L.defers,M)
 | .defers t,o=>o=.deferred (if t then none else some [])
theorem TRel.mono {σ τ:Sg} (h:Sub σ τ) {ts:List AT} {T:Array Value} (r:TRel σ ts T):TRel τ ts T:=VRels.mono h _ _ r
theorem BRel.mono {σ τ:Sg} (h:Sub σ τ) {N:Nat}:∀ {b:ABody} {o:Obj},BRel σ N b o->BRel τ N b o
 | .dead,_,_=>trivial
 | .cells _,_,⟨K,e,h1,h2,h3⟩=>⟨K,e,h1,VRels.mono h _ _ h2,h3⟩
 | .view _,_,⟨K,e,fr,h1,h2⟩=>⟨K,e,fr,h1,VRels.mono h _ _ h2⟩
 | .hold _,_,⟨K,e,fr,h1,h2⟩=>⟨K,e,fr,h1,VRels.mono h _ _ h2⟩
 | .grown _,_,⟨K,e,A,B,h1,h2,h3,J⟩=>⟨K,e,A,B,h1,h2,VRels.mono h _ _ h3,J⟩
 | .ints _ _,_,e=>e
 | .rows _ _,_,e=>e
 | .map _,_,⟨E,c,O,h1,hp,hn,h2,h3⟩=>⟨E,c,O,h1,hp,hn,VRels.mono h _ _ h2,VRels.mono h _ _ h3⟩
 | .loop _,_,⟨L,h1,h2,h3,J,Q,Y,h7,h8,M,h9⟩=>⟨L,h1,h2,h3,J,TRel.mono h Q,Y,h7,h8,M,h _ _ h9⟩
 | .defers _,_,e=>e
def ABody.isDead:ABody->Bool
 | .dead=>true
 | .rows _ xs=>xs.isEmpty
 | .ints _ xs=>xs.isEmpty
 | _=>false
theorem nD {k:IntKind} {xs:List Int} (h:0<xs.length):(ABody.ints k xs).isDead=false:=by
 cases xs with
 | nil=>cases h
 | cons x l=>rfl
def ABody.isView:ABody->Bool
 | .view _=>true
 | .hold _=>true
 | .rows _ _=>true
 | _=>false
structure HRel (σ:Sg) (h:Hp) (W:World):Prop where
 ok:h.ok
 blk:∀ i b,h.get i=some b->b.body.isDead=false->∃ B N o,σ i=some (B,N)/\W.heap[B]?=some o/\BRel σ N b.body o
 dom:∀ i B N,σ i=some (B,N)->i<h.size/\B<W.heap.size
 inj:∀ i j b c B N M,h.get i=some b->h.get j=some c->b.body.isDead=false->c.body.isDead=false->σ i=some (B,N)->σ j=some (B,M)->i=j\/(b.body.isView=true/\c.body.isView=true)
structure Ext (W V:World):Prop where
 os:V.os=W.os
 tape:V.tape=W.tape
 output:V.output=W.output
 size:W.heap.size<=V.heap.size
 fz:∀ a,V.frozen? a=W.frozen? a
theorem Ext.refl (W:World):Ext W W:=⟨rfl,rfl,rfl,bD _,fun _=>rfl⟩
theorem Ext.trans {A B C:World} (h:Ext A B) (k:Ext B C):Ext A C:=⟨k.os.trans h.os,k.tape.trans h.tape,k.output.trans h.output,dF h.size k.size,fun a=>(k.fz a).trans (h.fz a)⟩
def Fu (o:Obj):Prop:=∀ K e fr,o=.cells K e fr->fr=(0,0)
theorem Oa {σ:Sg} {N:Nat} {b:ABody} {o:Obj} (h:BRel σ N b o) (hd:b.isDead=false) (d:b.isView=false):Fu o:=by
 intro K e fr a
 cases b with
 | dead=>cases hd
 | cells l=>obtain ⟨f,g,h1,_⟩:=h;rw [h1] at a;cases a;rfl
 | view l=>cases d
 | hold l=>cases d
 | rows k xs=>cases d
 | grown l=>obtain ⟨f,g,_,_,h1,_⟩:=h;rw [h1] at a;cases a;rfl
 | ints k xs=>obtain ⟨f,g,_,h1,_⟩:=h;rw [h1] at a;cases a;rfl
 | map es=>obtain ⟨E,c,i,h1,_⟩:=h;rw [h1] at a;cases a
 | loop r=>obtain ⟨L,h1,_⟩:=h;rw [h1] at a;cases a
 | defers t=>rw [show o=_ from h] at a;cases a
theorem qp {W:World} {a:Addr} {o:Obj} (h:W.heap[a.block]?=some o) (c:Fu o):W.frozen? a=false:=by
 unfold World.frozen?;rw [h]
 cases o with
 | cells K e fr=>
  have:=c K e fr rfl;subst this;simp
 | _=>rfl
theorem Ob {W:World} {a:Addr} (h:W.heap[a.block]?=none):W.frozen? a=false:=by unfold World.frozen?;rw [h]
theorem sP (w:World) (o:Obj) (i:Nat):(w.alloc o).heap[i]?=if i=w.heap.size then some o else w.heap[i]?:=by show (w.heap.push o)[i]?=_;rw [yZ]
theorem BN {W:World} {o:Obj} (c:Fu o) (a:Addr):(W.alloc o).frozen? a=W.frozen? a:=by
 by_cases h:a.block=W.heap.size
 .rw [qp (o:=o) (by rw [sP,aC h]) c,Ob (by rw [h];simp)]
 .unfold World.frozen?;rw [sP,aB h]
structure Mon (h k:Hp):Prop where
 clock:h.clock<=k.clock
 size:h.size<=k.size
 same:∀ i b c,h.get i=some b->k.get i=some c->c=b\/h.clock<=c.wr
 loop:∀ i w c,h.get i=some ⟨w,.loop c⟩->∃ w' st pd,k.get i=some ⟨w',.loop { c with state:=st,pending:=pd }⟩
structure GoodH (H:Nat->Prop) (σ:Sg) (h:Hp) (W:World) (τ:Sg) (k:Hp) (V:World):Prop where
 sub:Sub σ τ
 only:∀ i x,τ i=some x->i<h.size->σ i=some x
 ext:Ext W V
 mon:Mon h k
 old:∀ i B N,τ i=some (B,N)->h.size<=i->B<W.heap.size->H B\/∃ j M c,j<h.size/\σ j=some (B,M)/\k.get j=some c/\h.clock<=c.wr
 keep:∀ B,B<W.heap.size->¬ H B->(∀ i N c,σ i=some (B,N)->k.get i=some c->c.wr<h.clock)->V.heap[B]?=W.heap[B]?
abbrev Good:=GoodH fun _=>False
theorem Hp.get_some {h:Hp} (E:h.ok) {i:Nat} (hi:i<h.size):∃ b,h.get i=some b:=by rw [Hp.get_eq];simp only [hi,bn];exact ⟨_,dh (by rw [E];omega)⟩
theorem Mon.refl (h:Hp):Mon h h:=⟨bD _,bD _,fun i b c e f=>.inl (by rw [e] at f;cases f;rfl),fun i w c e=>⟨w,c.state,c.pending,e⟩⟩
theorem Mon.trans {h k m:Hp} (ko:k.ok) (x:Mon h k) (y:Mon k m):Mon h m:=by
 refine ⟨dF x.clock y.clock,dF x.size y.size,fun i b c e f=>?_,fun i w c e=>?_⟩
 .obtain ⟨d,hd⟩:=Hp.get_some ko (i:=i) (dZ (Hp.get_lt e) x.size);rcases y.same i d c hd f with rfl|h2
  .exact x.same i b c e hd
  .exact .inr (dF x.clock h2)
 .obtain ⟨E,Q,Y,h1⟩:=x.loop i w c e;obtain ⟨J,O,p2,h2⟩:=y.loop i E _ h1;exact ⟨J,O,p2,h2⟩
theorem Good.refl (σ:Sg) (h:Hp) (W:World) (dom:∀ i B N,σ i=some (B,N)->i<h.size):Good σ h W σ h W:=
 ⟨Sub.refl _,fun _ _ e _=>e,Ext.refl _,Mon.refl _,fun i B N e hi _=>absurd (dom i B N e) (eP.2 hi),fun _ _ _ _=>rfl⟩
theorem GoodH.next {H H':Nat->Prop} {σ τ υ:Sg} {h k m:Hp} {W V X:World} (ko:k.ok) (mo:m.ok) (x:GoodH H σ h W τ k V) (y:GoodH H' τ k V υ m X) (hh:∀ B,H' B->B<W.heap.size->H B):GoodH H σ h W υ m X:=by
 have J:∀ j b c,k.get j=some b->h.clock<=b.wr->m.get j=some c->h.clock<=c.wr:=by
  intro j b c hb Y O;rcases y.mon.same j b c hb O with rfl|h2
  .exact Y
  .exact dF x.mon.clock h2
 have old:∀ i B N,τ i=some (B,N)->h.size<=i->B<W.heap.size->H B\/∃ j M c,j<h.size/\σ j=some (B,M)/\m.get j=some c/\h.clock<=c.wr:=by
  intro i B N e hi E;rcases x.old i B N e hi E with Q|⟨j,M,b,h1,h2,h3,h4⟩
  .exact .inl Q
  .obtain ⟨c,O⟩:=Hp.get_some mo (i:=j) (dZ (dZ h1 x.mon.size) y.mon.size);exact .inr ⟨j,M,c,h1,h2,O,J j b c h3 h4 O⟩
 refine ⟨x.sub.trans y.sub,fun i z e hi=>x.only i z (y.only i z e (dZ hi x.mon.size)) hi,x.ext.trans y.ext,x.mon.trans ko y.mon,?_,?_⟩
 .intro i B N e hi E;by_cases hk:i<k.size
  .exact old i B N (y.only i _ e hk) hi E
  .rcases y.old i B N e (eP.1 hk) (dZ E x.ext.size) with Q|⟨j,M,c,h1,h2,h3,h4⟩
   .exact .inl (hh B Q E)
   .by_cases hj:j<h.size
    .exact .inr ⟨j,M,c,hj,x.only j _ h2 hj,h3,dF x.mon.clock h4⟩
    .exact old j B M h2 (eP.1 hj) E
 .intro B E hH Y;rw [y.keep B (dZ E x.ext.size) (fun Q=>hH (hh B Q E)) ?_]
  .refine x.keep B E hH fun i N b hi hg=>?_;obtain ⟨c,O⟩:=Hp.get_some mo (i:=i) (dZ (Hp.get_lt hg) y.mon.size);have h1:=Y i N c hi O;rcases y.mon.same i b c hg O with rfl|h2
   .exact h1
   .exact absurd (dF x.mon.clock h2) (Nat.not_le.2 h1)
  .intro i N c hi hg;by_cases hk:i<h.size
   .exact dZ (Y i N c (x.only i _ hi hk) hg) x.mon.clock
   .rcases old i B N hi (eP.1 hk) E with Q|⟨j,M,c',h1,h2,h3,h4⟩
    .exact absurd Q hH
    .exact absurd (Y j M c' h2 h3) (eP.2 h4)
theorem Good.trans {σ τ υ:Sg} {h k m:Hp} {W V X:World} (ko:k.ok) (E:m.ok) (x:Good σ h W τ k V) (y:Good τ k V υ m X):Good σ h W υ m X:=GoodH.next ko E x y fun _ h _=>h
theorem GoodH.trans {σ τ υ:Sg} {h k m:Hp} {W V X:World} (ko:k.ok) (E:m.ok) (x:Good σ h W τ k V) (y:Good τ k V υ m X):Good σ h W υ m X:=GoodH.next ko E x y fun _ h _=>h
theorem Good.hide {H:Nat->Prop} {σ τ:Sg} {h k:Hp} {W V:World} (x:Good σ h W τ k V):GoodH H σ h W τ k V:=
 ⟨x.sub,x.only,x.ext,x.mon,fun i B N e hi E=>.inr ((x.old i B N e hi E).resolve_left id),fun B E _ J=>x.keep B E id J⟩
def Sg.add (σ:Sg) (i:Nat) (x:Nat×Nat):Sg:=fun j=>if j=i then some x else σ j
theorem Sub.add {σ:Sg} {i:Nat} {x:Nat×Nat} (h:σ i=none):Sub σ (σ.add i x):=fun j y e=>by
 unfold Sg.add;by_cases E:j=i
 .subst E;rw [h] at e;cases e
 .simp [E,e]
theorem HRel.fresh {σ:Sg} {h:Hp} {W:World} (r:HRel σ h W):σ h.size=none:=by
 cases e:σ h.size with
 | none=>rfl
 | some x=>exact absurd (r.dom _ _ _ e).1 (zx _)
theorem HRel.alloc {σ:Sg} {h:Hp} {W:World} (r:HRel σ h W) (b:ABody) (o:Obj) (N:Nat) (hb:BRel (σ.add h.size (W.heap.size,N)) N b o) (E:Fu o:=by intro _ _ _ h;first|(cases h;rfl)|cases h):
  HRel (σ.add h.size (W.heap.size,N)) (h.push b) (W.alloc o)/\Good σ h W (σ.add h.size (W.heap.size,N)) (h.push b) (W.alloc o):=by
 have J:=Sub.add (x:=(W.heap.size,N)) r.fresh;refine ⟨⟨Hp.ok_push r.ok b,?_,?_,?_⟩,⟨J,?_,⟨rfl,rfl,rfl,by simp,BN E⟩,⟨bD _,by simp [Hp.push],?_,?_⟩,?_,?_⟩⟩
 .intro i c e hd;rw [Hp.get_push] at e;by_cases hi:i=h.size
  .subst hi;simp only [bn,bi] at e;subst e;exact ⟨W.heap.size,N,o,by simp [Sg.add],by rw [sP];simp,hb⟩
  .simp only [hi,bz] at e;obtain ⟨B,M,p,h1,h2,h3⟩:=r.blk i c e hd;refine ⟨B,M,p,J _ _ h1,?_,BRel.mono J h3⟩;rw [sP];have:=(r.dom _ _ _ h1).2;rw [aB (by omega)];exact h2
 .intro i B M e;unfold Sg.add at e;by_cases hi:i=h.size
  .subst hi;simp only [bn,bi,eH] at e;obtain ⟨rfl,rfl⟩:=e;exact ⟨by simp [Hp.push],by simp⟩
  .simp only [hi,bz] at e;have:=r.dom _ _ _ e;exact ⟨by simp [Hp.push];omega,by simp;omega⟩
 .intro i j c d B M K e f E hd h1 h2;rw [Hp.get_push] at e f;unfold Sg.add at h1 h2;by_cases hi:i=h.size <;> by_cases O:j=h.size
  .omega
  .simp only [hi,O,bn,bz,bi,eH] at h1 h2;have:=(r.dom _ _ _ h2).2;omega
  .simp only [hi,O,bn,bz,bi,eH] at h1 h2;have:=(r.dom _ _ _ h1).2;omega
  .simp only [hi,O,bz] at e f h1 h2;exact r.inj i j c d B M K e f E hd h1 h2
 .intro i x e hi;unfold Sg.add at e;rw [aB (by omega)] at e;exact e
 .intro i c d e f;rw [Hp.get_push] at f;have:=Hp.get_lt e;rw [aB (by omega),e] at f;cases f;exact .inl rfl
 .intro i w c e;have:=Hp.get_lt e;exact ⟨w,c.state,c.pending,by rw [Hp.get_push,aB (by omega)];exact e⟩
 .intro i B M e hi Q;unfold Sg.add at e;by_cases h1:i=h.size
  .simp only [h1,bn,bi,eH] at e;omega
  .simp only [h1,bz] at e;have:=(r.dom _ _ _ e).1;omega
 .intro B Q _ _;rw [sP,aB (by omega)]
def Ho (a b:ABody):Prop:=∀ c,a=.loop c->∃ st pd,b=.loop { c with state:=st,pending:=pd }
theorem qw {a b:ABody} (h:∀ c,a≠.loop c):Ho a b:=fun c e=>absurd e (h c)
theorem Mon.put {h:Hp} (O:h.ok) {i:Nat} {b:ABlk} (Q:h.get i=some b) (d:ABody) (Y:Ho b.body d):Mon h (h.put i d):=by
 have hi:=Hp.get_lt Q;refine ⟨bD _,bD _,?_,?_⟩
 .intro j c e q1 E;rw [Hp.get_put O i j hi] at E;by_cases J:j=i
  .simp only [J,bn,bi] at E;subst E;exact .inr (bD _)
  .simp only [J,bz,q1,bi] at E;subst E;exact .inl rfl
 .intro j w c e;rw [Hp.get_put O i j hi];by_cases J:j=i
  .subst J;rw [Q] at e;cases e;obtain ⟨st,pd,rfl⟩:=Y c rfl;exact ⟨h.clock,st,pd,by simp⟩
  .simp only [J,bz];exact ⟨w,c.state,c.pending,e⟩
theorem HRel.write {σ:Sg} {h:Hp} {W V:World} (r:HRel σ h W) {i B N:Nat} {b:ABlk} (hg:h.get i=some b) (hl:b.body.isDead=false) (J:σ i=some (B,N)) (d:ABody) (hk:Ho b.body d) (o:Obj)
  (ho:V.heap[B]?=some o) (hb:BRel σ N d o) (ab:V.heap.size=W.heap.size) (hold:∀ k,k≠B->V.heap[k]?=W.heap[k]?) (h1:V.os=W.os) (h2:V.tape=W.tape) (h3:V.output=W.output) (hc:Fu o:=by intro _ _ _ h;first|(cases h;rfl)|cases h) (hnv:b.body.isView=false:=by rfl):
  HRel σ (h.put i d) V/\Good σ h W σ (h.put i d) V:=by
 have hi:=Hp.get_lt hg;have aa:∀ a,V.frozen? a=W.frozen? a:=fun a=>by
  by_cases h:a.block=B
  .obtain ⟨O,N',o',E,Q,q3⟩:=r.blk i b hg hl;rw [J] at E;cases E;rw [qp (by rw [h];exact ho) hc,qp (by rw [h];exact Q) (Oa q3 hl hnv)]
  .unfold World.frozen?;rw [hold _ h]
 refine ⟨⟨Hp.ok_put r.ok i d,?_,?_,?_⟩,⟨Sub.refl _,fun _ _ e _=>e,⟨h1,h2,h3,by omega,aa⟩,Mon.put r.ok hg d hk,fun j B M e Y _=>absurd (r.dom j B M e).1 (eP.2 Y),?_⟩⟩
 .intro j c e hd;rw [Hp.get_put r.ok i j hi] at e;by_cases Y:j=i
  .subst Y;simp only [bn,bi] at e;subst e;exact ⟨B,N,o,J,ho,hb⟩
  .simp only [Y,bz] at e;obtain ⟨O,M,p,E,Q,q3⟩:=r.blk j c e hd;refine ⟨O,M,p,E,?_,q3⟩;rw [hold];exact Q;intro eB;subst eB;exact Y ((r.inj j i c b O M N e hg hd hl E J).resolve_right fun h=>by rw [hnv] at h;cases h.2)
 .intro j O M e;have:=r.dom _ _ _ e;exact ⟨this.1,by omega⟩
 .intro j k c e O M K E Q q3 q4 q5 q6;rw [Hp.get_put r.ok i j hi] at E;rw [Hp.get_put r.ok i k hi] at Q;by_cases Y:j=i <;> by_cases hk:k=i
  .omega
  .subst Y;simp only [hk,bz] at Q;exact .inl ((r.inj j k b e O M K hg Q hl q4 q5 q6).resolve_right fun h=>by rw [hnv] at h;cases h.1)
  .subst hk;simp only [Y,bz] at E;exact .inl ((r.inj j k c b O M K E hg q3 hl q5 q6).resolve_right fun h=>by rw [hnv] at h;cases h.2)
  .simp only [Y,hk,bz] at E Q;exact r.inj j k c e O M K E Q q3 q4 q5 q6
 .intro O hB _ hw;apply hold;intro e;subst e;have:=hw i N ⟨h.clock,d⟩ J (by rw [Hp.get_put r.ok i i hi];simp);exact absurd this (zx _)
end Go.Eng
namespace Go.Eng
def ev (T:Array Value):Operand->Value
 | .tmp t=>T.getD t undef
 | .const v=>v
 | .global g=>.pointer (some ⟨g,0,none⟩)
 | .func f=>.func (.func f) #[] #[]
def GRel (C:Ctx) (σ:Sg):Prop:=∀ g i,C.glob g=some i->∃ N,σ i=some (g,N)
theorem GRel.mono {C:Ctx} {σ τ:Sg} (h:GRel C σ) (s:Sub σ τ):GRel C τ:=fun g i e=>let ⟨N,hN⟩:=h g i e;⟨N,s _ _ hN⟩
theorem AQ {σ:Sg} {v:Value} {a:AV} (h:vP v=some a):VRel σ a v/\a.isCell=true:=by unfold vP at h;split at h <;> first|(cases h;exact ⟨rfl,rfl⟩)|cases h
theorem xO {σ:Sg}:∀ {l:List Value} {m:List AV},Vv vP l=some m->VRels σ m l/\gD m=true
 | [],m,h=>by cases h;exact ⟨rfl,rfl⟩
 | v :: l,m,h=>by
  simp only [Vv] at h;split at h
  .cases h
  .rename_i b hb;split at h
   .cases h
   .rename_i bs a;cases h;obtain ⟨h1,h2⟩:=xO (σ:=σ) a;obtain ⟨h3,c⟩:=AQ (σ:=σ) hb;exact ⟨⟨v,l,rfl,h3,h1⟩,by simp [gD,h2,c]⟩
theorem TRel.nth {σ:Sg} {ts:List AT} {T:Array Value} (h:TRel σ ts T) {t:Nat} {a:AT} (e:Eng.nth ts t=some a):∃ v,T[t]?=some v/\VRel σ a.v v:=by
 have h1:Eng.nth (ts.map (·.v)) t=some a.v:=by rw [iX] at e ⊢;simp [e]
 obtain ⟨v,h2,h3⟩:=VRels.nth h h1;exact ⟨v,by simpa using h2,h3⟩
theorem TRel.none {σ:Sg} {ts:List AT} {T:Array Value} (h:TRel σ ts T) {t:Nat} (e:Eng.nth ts t=none):T[t]?=none:=by have:=VRels.length h;rw [iX] at e;simp at this e ⊢;omega
theorem iU {C:Ctx} {σ:Sg} {s:St} {T:Array Value} (g:GRel C σ) (h:TRel σ s.tmps T) (x:Operand):VRel σ (bv C s x) (ev T x):=by
 cases x with
 | tmp t=>
  simp only [bv,ev]
  cases e:nth s.tmps t with
  | none=>
   have:=h.none e;simp only [mO,this,Option.getD_none];exact ⟨#[],rfl,rfl⟩
  | some a=>
   obtain ⟨v,h1,h2⟩:=h.nth e;simpa [mO,h1] using h2
 | const v=>
  simp only [bv,ev]
  cases e:vP v with
  | none=>trivial
  | some a=>exact (AQ e).1
 | global n=>
  simp only [bv,ev]
  cases e:C.glob n with
  | none=>trivial
  | some i=>obtain ⟨N,hN⟩:=g n i e;exact ⟨n,N,hN,rfl⟩
 | func f=>exact ⟨#[],#[],rfl,rfl,rfl⟩
theorem J5 {C:Ctx} {σ:Sg} {s:St} {T:Array Value} (g:GRel C σ) (h:TRel σ s.tmps T):∀ l:List Operand,VRels σ (jB C s l) (l.map (ev T))
 | []=>rfl
 | x :: l=>⟨_,_,rfl,iU g h x,J5 g h l⟩
def OpOk (P:Program) (m:Sem Next) (σ:Sg) (h:Hp) (W:World) (q:S1):Prop:=
 q.need->∃ τ V X r,m.run P W=.ok r X/\(r=.value V\/(r=.skip/\V=undef))/\VRel τ q.v V/\HRel τ q.h X/\Good σ h W τ q.h X
theorem OpOk.pure {P:Program} {m:Sem Next} {σ:Sg} {h:Hp} {W:World} {nd:Nd} {v:AV} (r:HRel σ h W) (f:nd.val->∃ V,m.run P W=.ok (.value V) W/\VRel σ v V):OpOk P m σ h W ⟨nd,v,h⟩:=
 fun hn=>let ⟨V,h1,h2⟩:=f hn;⟨σ,V,W,_,h1,.inl rfl,h2,r,Good.refl _ _ _ fun i B N e=>(r.dom i B N e).1⟩
theorem pg {h:Hp} {x:Option (Nd×AV)} {q:S1} (e:qh h x=some q):∃ nd v,x=some (nd,v)/\q=⟨nd,v,h⟩:=by
 unfold qh at e;split at e
 .cases e
 .cases e;exact ⟨_,_,rfl,rfl⟩
theorem jq {h:Hp} {x:Option AV} {q:S1} (e:kw h x=some q):∃ v,x=some v/\q=⟨.tt,v,h⟩:=by
 unfold kw at e;split at e
 .cases e
 .cases e;exact ⟨_,rfl,rfl⟩
theorem zT {σ:Sg} {a:AV} {v:Value} (h:VRel σ a v) (c:gD a.cellsA=true):VRels σ a.cellsA v.cells.toList:=by
 cases a with
 | agg l=>obtain ⟨K,rfl,d⟩:=h;exact d
 | any b=>
  cases b
  .simp [AV.cellsA,gD,AV.isCell] at c
  .obtain ⟨h1,h2⟩:=h;refine ⟨v,[],?_,⟨h1,h2⟩,rfl⟩;cases v <;> first|rfl|(exact absurd rfl (h1 _))
 | tuple l=>simp [AV.cellsA,gD,AV.isCell] at c
 | panic l=>simp [AV.cellsA,gD,AV.isCell] at c
 | lslice i n=>obtain ⟨p,len,c,rfl,h1⟩:=h;exact ⟨_,[],rfl,⟨p,len,c,rfl,h1⟩,rfl⟩
 | islice w i o n=>obtain ⟨p,len,c,rfl,h1⟩:=h;exact ⟨_,[],rfl,⟨p,len,c,rfl,h1⟩,rfl⟩
 | ptr i o=>obtain ⟨b,N,h1,rfl⟩:=h;exact ⟨_,[],rfl,⟨b,N,h1,rfl⟩,rfl⟩
 | slice i o l k=>obtain ⟨b,N,h1,rfl⟩:=h;exact ⟨_,[],rfl,⟨b,N,h1,rfl⟩,rfl⟩
 | gslice i o l k=>obtain ⟨b,N,q,g,h1,rfl,h2⟩:=h;exact ⟨_,[],rfl,⟨b,N,q,g,h1,rfl,h2⟩,rfl⟩
 | func f j cs=>obtain ⟨F,K,rfl,h1,h2⟩:=h;exact ⟨_,[],rfl,⟨F,K,rfl,h1,h2⟩,rfl⟩
 | yield l=>obtain ⟨b,N,h1,rfl⟩:=h;exact ⟨_,[],rfl,⟨b,N,h1,rfl⟩,rfl⟩
 | iface t a=>obtain ⟨x,rfl,h1⟩:=h;exact ⟨_,[],rfl,⟨x,rfl,h1⟩,rfl⟩
 | map i=>obtain ⟨b,N,h1,rfl⟩:=h;exact ⟨_,[],rfl,⟨b,N,h1,rfl⟩,rfl⟩
 | bool s b=>obtain rfl:=h;exact ⟨_,[],rfl,rfl,rfl⟩
 | int s k n=>obtain rfl:=h;exact ⟨_,[],rfl,rfl,rfl⟩
 | str s b=>obtain rfl:=h;exact ⟨_,[],rfl,rfl,rfl⟩
 | nil=>obtain rfl:=h;exact ⟨_,[],rfl,rfl,rfl⟩
 | nilslice=>obtain rfl:=h;exact ⟨_,[],rfl,rfl,rfl⟩
 | eslice b=>obtain ⟨a,c,rfl,hb⟩:=h;exact ⟨_,[],rfl,⟨a,c,rfl,hb⟩,rfl⟩
 | nilfunc=>obtain rfl:=h;exact ⟨_,[],rfl,rfl,rfl⟩
 | niliface=>obtain rfl:=h;exact ⟨_,[],rfl,rfl,rfl⟩
 | nilmap=>obtain rfl:=h;exact ⟨_,[],rfl,rfl,rfl⟩
 | vslice i l=>obtain ⟨b,N,c,h1,rfl⟩:=h;exact ⟨_,[],rfl,⟨b,N,c,h1,rfl⟩,rfl⟩
 | pslice i l s n=>obtain ⟨p,len,c,rfl,h1⟩:=h;exact ⟨_,[],rfl,⟨p,len,c,rfl,h1⟩,rfl⟩
 | vptr i o=>obtain ⟨b,N,h1,rfl⟩:=h;exact ⟨_,[],rfl,⟨b,N,h1,rfl⟩,rfl⟩
theorem fC {σ:Sg} {a:AV} {v:Value} (h:VRel σ a v) (c:a.isCell=true):v.oneCell'=true:=by
 cases a with
 | any b=>
  cases b
  .cases c
  .obtain ⟨h1,h2⟩:=h;cases v <;> first|rfl|(exact absurd rfl (h1 _))|(exact absurd rfl (h2 _))
 | agg l=>cases c
 | tuple l=>cases c
 | panic l=>cases c
 | lslice i n=>obtain ⟨p,len,c,rfl,h1⟩:=h;rfl
 | islice w i o n=>obtain ⟨p,len,c,rfl,h1⟩:=h;rfl
 | ptr i o=>obtain ⟨b,N,h1,rfl⟩:=h;rfl
 | slice i o l k=>obtain ⟨b,N,h1,rfl⟩:=h;rfl
 | gslice i o l k=>obtain ⟨b,N,q,d,h1,rfl,h2⟩:=h;rfl
 | func f g cs=>obtain ⟨F,K,rfl,h1,h2⟩:=h;rfl
 | yield l=>obtain ⟨b,N,h1,rfl⟩:=h;rfl
 | iface t a=>obtain ⟨x,rfl,h1⟩:=h;rfl
 | map i=>obtain ⟨b,N,h1,rfl⟩:=h;rfl
 | bool s b=>obtain rfl:=h;rfl
 | int s k n=>obtain rfl:=h;rfl
 | str s b=>obtain rfl:=h;rfl
 | nil=>obtain rfl:=h;rfl
 | nilslice=>obtain rfl:=h;rfl
 | eslice b=>obtain ⟨a,c,rfl,_⟩:=h;rfl
 | nilfunc=>obtain rfl:=h;rfl
 | niliface=>obtain rfl:=h;rfl
 | nilmap=>obtain rfl:=h;rfl
 | vslice i l=>obtain ⟨b,N,c,h1,rfl⟩:=h;rfl
 | pslice i l s n=>obtain ⟨p,len,c,rfl,h1⟩:=h;rfl
 | vptr i o=>obtain ⟨b,N,h1,rfl⟩:=h;rfl
theorem qy {σ:Sg}:∀ {l:List AV} {L:List Value},VRels σ l L->gD l=true->∀ v∈L,v.oneCell'=true
 | [],_,e,_,v,b=>by rw [show _=[] from e] at b;cases b
 | a :: l,_,⟨u,d,e,r,s⟩,c,v,b=>by
  rw [e] at b;simp only [gD,aF] at c;rcases aN.1 b with rfl|b
  .exact fC r c.1
  .exact qy s c.2 v b
theorem fZ {P:Program} {σ:Sg} {t:TypeId} {z:List AV} (h:zeroCells P t=some z):
  ∃ i v,P.info? t=some i/\i.zero=some v/\VRels σ z v.cells.toList/\gD z=true:=by
 unfold zeroCells at h;split at h
 .cases h
 .rename_i i hi;split at h
  .cases h
  .rename_i v a;obtain ⟨h1,h2⟩:=xO (σ:=σ) h;exact ⟨i,v,hi,a,h1,h2⟩
theorem mH {P:Program} {t:TypeId} {n:Nat} (h:iJ P t=some n):∃ i,P.info? t=some i/\i.size=n:=by
 unfold iJ at h
 cases e:P.info? t with
 | none=>rw [e] at h;cases h
 | some i=>rw [e] at h;cases h;exact ⟨i,rfl,rfl⟩
theorem bM {P:Program} {t:TypeId} {n:Nat} (h:iJ P t=some n) (W:World):(sizeOf t).run P W=.ok n W:=by obtain ⟨i,hi,rfl⟩:=mH h;simp [sizeOf,typeInfo,hi]
theorem sQ {P:Program} {t:TypeId} {i:TypeInfo} {v:Value} (hi:P.info? t=some i) (a:i.zero=some v) (W:World):(zeroValue t).run P W=.ok v W:=by simp [zeroValue,typeInfo,hi,a]
theorem iH {P:Program} {t:TypeId} {b:Bool} (h:fB P t=some b) (W:World):(isAgg t).run P W=.ok b W:=by
 unfold fB at h
 cases e:P.underlying t with
 | none=>rw [e] at h;cases h
 | some d=>
  rw [e] at h;unfold isAgg;rw [bO,aK e W];cases d <;> cases h <;> simp
theorem BO {P:Program} {σ:Sg} {h:Hp} {W:World} (r:HRel σ h W) {l:List AV} {K:Array Value} (e:TypeId) (a:VRels σ l K.toList) (m:Sem Next) (v:AV) (V:Value)
  (b:m.run P W=.ok (.value V) (W.alloc (.cells K e))) (c:VRel (σ.add h.size (W.heap.size,K.size)) v V):OpOk P m σ h W ⟨.tt,v,h.push (.cells l)⟩:=fun _=>by
 obtain ⟨h1,h2⟩:=r.alloc (.cells l) (.cells K e) K.size ⟨K,e,rfl,VRels.mono (Sub.add r.fresh) _ _ a,rfl⟩;exact ⟨_,V,_,_,b,.inl rfl,c,h1,h2⟩
theorem fF {σ:Sg} {i:Nat} {x:Nat×Nat}:σ.add i x i=some x:=by simp [Sg.add]
theorem Rf {P:Program} {σ:Sg} {h:Hp} {W:World} (r:HRel σ h W) {t:TypeId} {q:S1} (e:BF P h t=some q):
  OpOk P (do pure (.value (<- Instr.alloc t true (.tuple #[])))) σ h W q:=by
 unfold BF at e;split at e
 .cases e
 .rename_i z a;split at e
  .cases e;obtain ⟨i,v,hi,b,h1,_⟩:=fZ (σ:=σ) a;refine BO r t h1 _ _ (.pointer (some ⟨W.heap.size,0,none⟩)) ?_ ⟨W.heap.size,v.cells.size,fF,rfl⟩;simp [Instr.alloc,sQ hi b,newVar,newRow]
  .cases e
theorem XU {P:Program} {σ:Sg} {h:Hp} {W:World} (r:HRel σ h W) {t:TypeId} {a:AV} {v:Value} (b:VRel σ a v) {q:S1} (e:XL h a=some q):
  OpOk P (do pure (.value (<- Instr.box t v))) σ h W q:=by
 unfold XL at e;split at e
 .rename_i c;cases e;refine BO r t (zT b c) _ _ (.pointer (some ⟨W.heap.size,0,none⟩)) ?_ ⟨W.heap.size,v.cells.size,fF,rfl⟩;simp [Instr.box,newVar,newRow]
 .cases e
end Go.Eng
