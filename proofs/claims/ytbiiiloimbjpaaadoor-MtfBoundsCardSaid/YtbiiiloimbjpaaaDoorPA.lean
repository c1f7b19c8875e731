/- What is proved: MtfBounds returns true, whatever the input (part 1). No conditions beyond those of the row. -/
import GoSem.Step
import Derived.Control
import Derived.Calls
import Derived.Laws.Sem
import Derived.Laws.World
import Derived.Laws.Cells
import Derived.Laws.Rows
import Derived.Laws.Entries
import Derived.Laws.Append
import Derived.Laws.CopyRow
import Derived.Laws.AppendOwn
import Derived.Laws.StructEq
import Derived.Laws.Tables
import Derived.ChangeKeysEq
set_option linter.unusedVariables false
set_option linter.unusedSimpArgs false
set_option linter.unusedSectionVars false
namespace Go.Eng
noncomputable section
inductive AV where
 | any (c:Bool)
 | bool (s b:Bool)
 | int (s:Bool) (k:IntKind) (n:Int)
 | str (s:Bool) (b:ByteArray)
 | nil
 | ptr (id off:Nat)
 | nilslice
 | eslice (b:Bool)
 | slice (id off len cap:Nat)
 | gslice (id off len esz:Nat)
 | func (f:FuncId) (first cap:List AV)
 | yield (l:Nat)
 | nilfunc
 | iface (t:TypeId) (v:AV)
 | niliface
 | map (id:Nat)
 | nilmap
 | vslice (id len:Nat)
 | vptr (id off:Nat)
 | pslice (id l:Nat) (s:Bool) (n:Int)
 | lslice (id:Nat) (n:Int)
 | islice (w:Bool) (id:Nat) (off n:Int)
 | panic (v:AV)
 | agg (l:List AV)
 | tuple (l:List AV)
 deriving Inhabited
def aS:AV:=.tuple []
structure AT where
 st:Nat
 v:AV
inductive ADef where
 | collected (id:Nat)
 | call (f:FuncId) (args:List AV)
structure ALoop where
 state:LoopState
 pending:Option Code
 fn:FuncId
 tmps:List AT
 params:List Tmp
 assign:Code
 body:Code
 defers:Nat
inductive ABody where
 | dead
 | cells (l:List AV)
 | view (l:List AV)
 | hold (l:List AV)
 | rows (k:IntKind) (xs:List Int)
 | grown (l:List AV)
 | ints (k:IntKind) (xs:List Int)
 | map (es:List (AV×AV))
 | loop (r:ALoop)
 | defers (taken:Bool)
structure ABlk where
 wr:Nat
 body:ABody
structure Hp where
 blks:List ABlk
 size:Nat
 clock:Nat
structure St where
 tmps:List AT
 defs:List ADef
 hp:Hp
inductive Ex where
 | normal
 | exit (id:Nat)
 | goto (l:Nat)
 | ret
 | raise (v:AV)
inductive G where
 | tt
 | b (p:Bool)
def G.val:G->Bool
 | .tt=>true
 | .b p=>p
def G.on {β:Type} (g:G) (k:Bool->β):β:=
 match g with
 | .tt=>k true
 | .b p=>k p
theorem G.on_eq {β:Type} (g:G) (k:Bool->β):g.on k=k g.val:=by cases g <;> rfl
def G.and (p:Bool):G->G
 | .tt=>.b p
 | .b q=>.b (p&&q)
def G.andG:G->G->G
 | .tt,g=>g
 | .b p,g=>g.and p
def G.or:G->G->G
 | .tt,_=>.tt
 | _,.tt=>.tt
 | .b p,.b q=>.b (p||q)
def G.ite (p:Bool):G->G->G
 | .tt,.tt=>.tt
 | .tt,.b q=>.b (p||q)
 | .b q,.tt=>.b (bif p then q else true)
 | .b q,.b q'=>.b (bif p then q else q')
structure Ent where
 g:G
 x:Ex
 s:St
inductive Nd where
 | tt
 | p (q:Prop)
@[reducible] def Nd.val:Nd->Prop
 | .tt=>True
 | .p q=>q
def Nd.and:Nd->Nd->Nd
 | .tt,y=>y
 | .p a,.tt=>.p a
 | .p a,.p b=>.p (a/\b)
def Nd.imp (g:Prop):Nd->Nd
 | .tt=>.tt
 | .p a=>.p (g->a)
theorem Nd.and_val {a b:Nd}:(a.and b).val ↔ a.val/\b.val:=by
 cases a <;> cases b <;> simp [Nd.and,Nd.val]
theorem Nd.imp_val {g:Prop} {a:Nd}:(Nd.imp g a).val ↔ (g->a.val):=by
 cases a <;> simp [Nd.imp,Nd.val]
theorem Nd.lv {a b:Nd} (h:(a.and b).val):a.val:=(Nd.and_val.1 h).1
theorem Nd.rv {a b:Nd} (h:(a.and b).val):b.val:=(Nd.and_val.1 h).2
theorem Nd.iv {g:Prop} {a:Nd} (h:(Nd.imp g a).val) (k:g):a.val:=Nd.imp_val.1 h k
structure R where
 nd:Nd
 l:List Ent
@[reducible] def R.need (q:R):Prop:=q.nd.val
structure CEnt where
 g:G
 v:AV
 hp:Hp
structure CR where
 nd:Nd
 l:List CEnt
@[reducible] def CR.need (q:CR):Prop:=q.nd.val
structure AFr where
 fn:FuncId
 round:Option Nat
noncomputable def nth {α:Type} (l:List α) (n:Nat):Option α:=
 List.rec (motive:=fun _=>Nat->Option α) (fun _=>none) (fun a _ ih n=>Nat.rec (motive:=fun _=>Option α) (some a) (fun m _=>ih m) n) l n
noncomputable def wI {α β:Type} (l:List α) (n:Nat) (v:α) (k:List α->β):β:=
 List.rec (motive:=fun _=>Nat->(List α->β)->β) (fun _ k=>k []) (fun a l ih n k=>Nat.rec (motive:=fun _=>β) (k (v :: l)) (fun m _=>ih m fun l'=>k (a :: l')) n) l n k
def Ka {α β:Type}:List α->List α->(List α->β)->β
 | [],l,k=>k l
 | a :: m,l,k=>Ka m l fun r=>k (a :: r)
def aP {α:Type}:Nat->List α->List α
 | 0,l=>l
 | _+1,[]=>[]
 | n+1,_ :: l=>aP n l
def aC {β:Type} (n:Nat) (k:Nat->β):β:=
 match n with
 | 0=>k 0
 | m+1=>k (m+1)
def rM {β:Type} (n:Int) (k:Int->β):β:=
 match n with
 | .ofNat m=>aC m fun m=>k (.ofNat m)
 | .negSucc m=>aC m fun m=>k (.negSucc m)
def bB (s:Bool) (k:IntKind) (n:Int):AV:=
 match s with
 | true=>.int true k n
 | false=>rM n fun n=>.int false k n
def iH (s:Bool) (b:Bool):AV:=
 match s with
 | true=>.bool true b
 | false=>match b with
  | true=>.bool false true
  | false=>.bool false false
def Hp.get (h:Hp) (i:Nat):Option ABlk:=
 match Nat.ble h.size i with
 | true=>none
 | false=>nth h.blks (h.size - 1 - i)
def Hp.set {β:Type} (h:Hp) (i:Nat) (b:ABody) (k:Hp->β):β:=
 wI h.blks (h.size - 1 - i) ⟨h.clock,b⟩ fun l=>k ⟨l,h.size,h.clock⟩
def Hp.push (h:Hp) (b:ABody):Hp:=⟨⟨h.clock,b⟩ :: h.blks,h.size+1,h.clock⟩
def St.put {β:Type} (s:St) (dst:Option Tmp) (v:AV) (k:St->β):β:=
 match dst with
 | none=>k s
 | some d=>wI s.tmps d ⟨s.hp.clock,v⟩ fun t=>k ⟨t,s.defs,s.hp⟩
def xk {β:Type} (s:St) (k:St->β):β:=aC (s.hp.clock+1) fun c=>k ⟨s.tmps,s.defs,⟨s.hp.blks,s.hp.size,c⟩⟩
mutual
def AV.under (n:Nat):AV->Bool
 | .ptr i _=>Nat.blt i n
 | .slice i _ _ _=>Nat.blt i n
 | .gslice i _ _ _=>Nat.blt i n
 | .func _ fs cs=>AV.underL n fs&&AV.underL n cs
 | .yield l=>Nat.blt l n
 | .iface _ v=>AV.under n v
 | .map i=>Nat.blt i n
 | .vslice i _=>Nat.blt i n
 | .pslice i _ _ _=>Nat.blt i n
 | .lslice i _=>Nat.blt i n
 | .islice _ i _ _=>Nat.blt i n
 | .panic v=>AV.under n v
 | .vptr i _=>Nat.blt i n
 | .agg l=>AV.underL n l
 | .tuple l=>AV.underL n l
 | .any _=>true
 | .bool _ _=>true
 | .int _ _ _=>true
 | .str _ _=>true
 | .nil=>true
 | .nilslice=>true
 | .eslice _=>true
 | .nilfunc=>true
 | .niliface=>true
 | .nilmap=>true
def AV.underL (n:Nat):List AV->Bool
 | []=>true
 | a :: l=>AV.under n a&&AV.underL n l
end
def mf:Value->Option AV
 | .bool b=>some (.bool false b)
 | .int k n=>some (.int false k n)
 | .string s=>some (.str false s)
 | .pointer none=>some .nil
 | .slice none 0 0=>some .nilslice
 | .nilFunc=>some .nilfunc
 | .nilIface=>some .niliface
 | .map none=>some .nilmap
 | _=>none
def Kb {α β:Type} (f:α->Option β):List α->Option (List β)
 | []=>some []
 | a :: l=>match f a with
  | none=>none
  | some b=>match Kb f l with
   | none=>none
   | some bs=>some (b :: bs)
def AV.isCell:AV->Bool
 | .any c=>c
 | .agg _=>false
 | .tuple _=>false
 | .panic _=>false
 | _=>true
def AV.isPanic:AV->Bool
 | .panic _=>true
 | _=>false
def bD:List AV->Bool
 | []=>true
 | a :: l=>a.isCell&&bD l
structure Ctx where
 P:Program
 glob:Nat->Option Nat
 con:FuncId->List AV->Hp->Option (Nd×AV×List ABody)
 ext:FuncId->List AV->Option (Nd×AV)
 loop:AFr->Code->St->Option R
 hint:Nat->Nat->Option AV:=fun _ _=>none
 two:FuncId->List AV->Hp->Option (Nd×Bool×AV×AV):=fun _ _ _=>none
 hintT:Nat->Option (Nat×AV):=fun _=>none
 part:FuncId->Bool:=fun _=>false
def aQ (P:Program) (t:TypeId):Option Bool:=
 match P.underlying t with
 | none=>none
 | some (.struct _)=>some true
 | some (.array _ _)=>some true
 | some _=>some false
def bY (P:Program) (t:TypeId):Option Nat:=(P.info? t).map (·.size)
def zeroCells (P:Program) (t:TypeId):Option (List AV):=
 match P.info? t with
 | none=>none
 | some i=>match i.zero with
  | none=>none
  | some v=>Kb mf v.cells.toList
def IM (P:Program) (t:TypeId):Option AV:=
 match P.info? t with
 | none=>none
 | some i=>match i.zero with
  | none=>none
  | some (.agg cs)=>(Kb mf cs.toList).map .agg
  | some v=>mf v
def AV.cellsA:AV->List AV
 | .agg l=>l
 | v=>[v]
def bP {α:Type}:Nat->List α->Option (List α)
 | 0,_=>some []
 | _+1,[]=>none
 | n+1,a :: l=>match bP n l with
  | none=>none
  | some r=>some (a :: r)
def j5 (P:Program) (t:TypeId) (cs:List AV) (off:Nat):Option AV:=
 match aQ P t with
 | none=>none
 | some true=>match bY P t with
  | none=>none
  | some n=>(bP n (aP off cs)).map .agg
 | some false=>nth cs off
def bU:List AV->Nat->List AV->Option (List AV)
 | l,0,[]=>some l
 | l,0,v :: vs=>match l with
  | []=>none
  | _ :: l=>match bU l 0 vs with
   | none=>none
   | some r=>some (v :: r)
 | [],_+1,_=>none
 | a :: l,n+1,vs=>match bU l n vs with
  | none=>none
  | some r=>some (a :: r)
def jC (P:Program) (h:Hp) (t:TypeId) (a:AV):Option (Nd×AV):=
 match a with
 | .ptr i off=>match h.get i with
  | some ⟨_,.cells l⟩=>(j5 P t l off).map fun v=>(Nd.tt,v)
  | some ⟨_,.grown l⟩=>(j5 P t l off).map fun v=>(Nd.tt,v)
  | some ⟨_,.hold l⟩=>(j5 P t l off).map fun v=>(Nd.tt,v)
  | some ⟨_,.ints k xs⟩=>match P.underlying t with
   | some (.int k')=>if k=k' then some (.p (off<xs.length),.int true k (xs.getD off 0)) else none
   | _=>none
  | _=>none
 | .vptr i off=>match h.get i with
  | some ⟨_,.view l⟩=>(j5 P t l off).map fun v=>(Nd.tt,v)
  | some ⟨_,.rows k xs⟩=>match P.underlying t with
   | some (.int k')=>if k=k' then some (.p (off<xs.length),.int true k (xs.getD off 0)) else none
   | _=>none
  | _=>none
 | _=>none
def LQ {β:Type} (P:Program) (h:Hp) (t:TypeId) (a v:AV) (no:β) (k:Nd->Hp->β):β:=
 match a with
 | .ptr i off=>match h.get i with
  | some ⟨_,.cells l⟩=>match bY P t with
   | none=>no
   | some n=>
    let vs:=v.cellsA
    if vs.length=n&&bD vs then match bU l off vs with
     | none=>no
     | some l'=>h.set i (.cells l') (k .tt)
    else no
  | some ⟨_,.grown l⟩=>match bY P t with
   | none=>no
   | some n=>
    let vs:=v.cellsA
    if vs.length=n&&bD vs then match bU l off vs with
     | none=>no
     | some l'=>h.set i (.grown l') (k .tt)
    else no
  | some ⟨_,.ints q xs⟩=>match v with
   | .int _ q' x=>match bY P t with
    | some 1=>if q=q' then h.set i (.ints q (xs.set off x)) (k (.p (off<xs.length))) else no
    | _=>no
   | _=>no
  | _=>no
 | _=>no
def jU (qy:Nat->Option (Nat×Nat)):List AV->List (Nat×AV)->Option (List AV)
 | cells,[]=>some cells
 | cells,(i,v) :: rest=>match qy i with
  | none=>none
  | some (off,n)=>
   let vs:=v.cellsA
   if vs.length=n&&bD vs then match bU cells off vs with
    | none=>none
    | some l=>jU qy l rest
   else none
def BB (op:BinOp) (s:Bool) (k:IntKind) (a b:Int):Option AV:=
 match op with
 | .add=>some (bB s k (k.wrap (a+b)))
 | .sub=>some (bB s k (k.wrap (a - b)))
 | .mul=>some (bB s k (k.wrap (a*b)))
 | .and=>some (bB s k (k.wrap (BitVec.ofInt k.bits a &&& BitVec.ofInt k.bits b).toNat))
 | .or=>some (bB s k (k.wrap (BitVec.ofInt k.bits a ||| BitVec.ofInt k.bits b).toNat))
 | .xor=>some (bB s k (k.wrap (BitVec.ofInt k.bits a ^^^ BitVec.ofInt k.bits b).toNat))
 | .andNot=>some (bB s k (k.wrap (BitVec.ofInt k.bits a &&& ~~~BitVec.ofInt k.bits b).toNat))
 | .eql=>some (iH s (a==b))
 | .neq=>some (iH s (a != b))
 | .lss=>some (iH s (decide (a<b)))
 | .leq=>some (iH s (decide (a<=b)))
 | .gtr=>some (iH s (decide (a>b)))
 | .geq=>some (iH s (decide (a>=b)))
 | _=>none
def rO (op:BinOp) (s:Bool) (k:IntKind) (a:Int) (n:Nat):Option AV:=
 match op with
 | .shl=>some (bB s k (k.wrap (a*2 ^ n)))
 | .shr=>some (bB s k (a.fdiv (2 ^ n)))
 | _=>none
inductive LK where
 | b
 | i (k:IntKind)
 | s
def BC (g:TypeId->Option (List LK)):Nat->List Field->Option (List LK)
 | _,[]=>some []
 | off,f :: fs=>match decide (f.name="_") with
  | true=>none
  | false=>match Nat.beq f.offset off with
   | false=>none
   | true=>match g f.type with
    | none=>none
    | some ks=>match BC g (off+ks.length) fs with
     | none=>none
     | some r=>some (ks++r)
def qh {α:Type} (z:List α):Nat->List α
 | 0=>[]
 | n+1=>z++qh z n
def xm (P:Program) (t:TypeId) (l:List LK):Option (List LK):=
 match bY P t with
 | none=>none
 | some n=>match Nat.beq n l.length with
  | true=>some l
  | false=>none
def rP (P:Program):Nat->TypeId->Option (List LK)
 | 0,_=>none
 | d+1,t=>match P.underlying t with
  | some .bool=>xm P t [.b]
  | some (.int k)=>xm P t [.i k]
  | some .string=>xm P t [.s]
  | some (.struct fs)=>match P.stoodInHeld t with
   | true=>none
   | false=>match BC (rP P d) 0 fs.toList with
    | none=>none
    | some l=>xm P t l
  | some (.array n e)=>match rP P d e with
   | none=>none
   | some l=>xm P t (qh l n)
  | _=>none
def Gx:List UInt8->List UInt8->Bool
 | [],[]=>true
 | a :: l,b :: m=>Nat.beq a.toNat b.toNat&&Gx l m
 | _,_=>false
def jF (x y:ByteArray):Bool:=Gx x.data.toList y.data.toList
def BD (k:LK) (a b:AV):Option (Bool×Bool):=
 match k with
 | .b=>match a,b with
  | .bool s x,.bool s' y=>some (s||s',x==y)
  | _,_=>none
 | .i k=>match a,b with
  | .int s q x,.int s' r y=>if q=k/\r=k then some (s||s',x==y) else none
  | _,_=>none
 | .s=>match a,b with
  | .str s x,.str s' y=>some (s||s',jF x y)
  | _,_=>none
def bn:List LK->List AV->List AV->Option (Bool×Bool)
 | [],[],[]=>some (false,true)
 | k :: ks,a :: l,b :: m=>match BD k a b with
  | none=>none
  | some (s,p)=>match bn ks l m with
   | none=>none
   | some (s',p')=>some (s||s',p&&p')
 | _,_,_=>none
def LU:AV->AV->Option (Bool×Bool)
 | .nil,.nil=>some (false,true)
 | .nil,.ptr _ _=>some (false,false)
 | .ptr _ _,.nil=>some (false,false)
 | _,_=>none
def BF:AV->AV->Option (Bool×Bool)
 | .nilslice,.nilslice=>some (false,true)
 | .nilslice,.slice _ _ _ _=>some (false,false)
 | .slice _ _ _ _,.nilslice=>some (false,false)
 | .nilslice,.gslice _ _ _ _=>some (false,false)
 | .gslice _ _ _ _,.nilslice=>some (false,false)
 | .nilslice,.eslice b=>some (false,b)
 | .eslice b,.nilslice=>some (false,b)
 | .nilslice,.pslice _ (_+1) _ _=>some (false,false)
 | .pslice _ (_+1) _ _,.nilslice=>some (false,false)
 | _,_=>none
def Gy:AV->AV->Option (Bool×Bool)
 | .nilfunc,.nilfunc=>some (false,true)
 | .nilfunc,.func _ _ _=>some (false,false)
 | .func _ _ _,.nilfunc=>some (false,false)
 | _,_=>none
def BG (m:Bool):AV->AV->Option (Bool×Bool)
 | .niliface,.niliface=>bif m then some (false,true) else none
 | .niliface,.iface _ _=>some (false,false)
 | .iface _ _,.niliface=>some (false,false)
 | _,_=>none
def IP (P:Program) (t:TypeId):AV->AV->Option (Bool×Bool)
 | .agg l,.agg m=>match P.eqGuardType P.depth t with
  | true=>none
  | false=>match rP P 20 t with
   | none=>none
   | some ks=>bn ks l m
 | _,_=>none
def eqV (P:Program) (t:TypeId) (a b:AV):Option (Bool×Bool):=
 match P.underlying t with
 | some .bool=>BD .b a b
 | some .string=>BD .s a b
 | some (.pointer _)=>LU a b
 | some (.slice _)=>BF a b
 | some (.func _ _ _)=>Gy a b
 | some (.struct _)=>IP P t a b
 | some (.array _ _)=>IP P t a b
 | some (.interface ms)=>BG ms.isEmpty a b
 | _=>none
def BH (op:BinOp) (a b:AV):Option (Nd×AV):=
 match a,b with
 | .int s k x,.int s' _ y=>match s' with
  | false=>match decide (y<0) with
   | true=>none
   | false=>match rO op s k x (min y.toNat k.bits) with
    | none=>none
    | some v=>some (.tt,v)
  | true=>match rO op true k x (min y.toNat k.bits) with
   | none=>none
   | some v=>some (.p (0<=y),v)
 | _,_=>none
def BI (op:BinOp) (s:Bool) (k:IntKind) (x y:Int):Option AV:=
 match op with
 | .quo=>some (bB s k (k.wrap (x.tdiv y)))
 | .rem=>some (bB s k (x.tmod y))
 | _=>none
def R7 (op:BinOp) (a b:AV):Option (Nd×AV):=
 match a,b with
 | .int s k x,.int s' k' y=>if k=k' then match s' with
   | false=>match decide (y=0) with
    | true=>none
    | false=>match BI op s k x y with
     | none=>none
     | some v=>some (.tt,v)
   | true=>match BI op true k x y with
    | none=>none
    | some v=>some (.p (y≠0),v)
  else none
 | _,_=>none
def cmpV (P:Program) (op:BinOp) (t:TypeId) (a b:AV):Option (Nd×AV):=
 match op with
 | .eql=>match eqV P t a b with
  | none=>none
  | some (s,p)=>some (.tt,iH s p)
 | .neq=>match eqV P t a b with
  | none=>none
  | some (s,p)=>some (.tt,iH s !p)
 | _=>none
def WP (P:Program) (op:BinOp) (t:TypeId) (a b:AV):Option (Nd×AV):=
 match a,b with
 | .lslice _ n,.nilslice=>match P.underlying t with
  | some (.slice _)=>match op with
   | .eql=>some (.p (0<n),.bool false false)
   | .neq=>some (.p (0<n),.bool false true)
   | _=>none
  | _=>none
 | _,_=>none
def LV (P:Program) (op:BinOp) (t:TypeId) (a b:AV):Option (Nd×AV):=
 match a,b with
 | .int s k x,.int s' k' y=>if k=k' then match BB op (s||s') k x y with
   | none=>none
   | some v=>some (.tt,v)
  else none
 | a,b=>match WP P op t a b with
  | some r=>some r
  | none=>cmpV P op t a b
def R8 (P:Program) (op:BinOp) (t:TypeId) (a b:AV):Option (Nd×AV):=
 match op with
 | .shl=>BH op a b
 | .shr=>BH op a b
 | .quo=>R7 op a b
 | .rem=>R7 op a b
 | _=>LV P op t a b
def unV (op:UnOp):AV->Option AV
 | .int s k n=>match op with
  | .neg=>some (bB s k (k.wrap (0 - n)))
  | .xor=>BB .xor s k (if k.signed then -1 else k.max) n
  | _=>none
 | .bool s b=>match op with
  | .not=>some (iH s !b)
  | _=>none
 | _=>none
def IQ (P:Program) (src dst:TypeId) (a:AV):Option AV:=
 match a with
 | .int s _ n=>match P.underlying src with
  | none=>none
  | some _=>match P.underlying dst with
   | some (.int k)=>some (bB s k (k.wrap n))
   | _=>none
 | _=>none
mutual
def eZ:AV->AV->Bool
 | .bool false a,.bool false b=>a==b
 | .int false k a,.int false k' b=>(k==k')&&(a==b)
 | .str false a,.str false b=>jF a b
 | .nil,.nil=>true
 | .ptr i o,.ptr j q=>Nat.beq i j&&Nat.beq o q
 | .nilslice,.nilslice=>true
 | .eslice a,.eslice b=>a==b
 | .slice i o l c,.slice j q m d=>Nat.beq i j&&Nat.beq o q&&Nat.beq l m&&Nat.beq c d
 | .gslice i o l c,.gslice j q m d=>Nat.beq i j&&Nat.beq o q&&Nat.beq l m&&Nat.beq c d
 | .func f fs cs,.func g gs ds=>Nat.beq f g&&je fs gs&&je cs ds
 | .yield l,.yield m=>Nat.beq l m
 | .nilfunc,.nilfunc=>true
 | .niliface,.niliface=>true
 | .nilmap,.nilmap=>true
 | .map i,.map j=>Nat.beq i j
 | .vslice i l,.vslice j m=>Nat.beq i j&&Nat.beq l m
 | .pslice i l false n,.pslice j m false k=>Nat.beq i j&&Nat.beq l m&&(n==k)
 | .vptr i o,.vptr j q=>Nat.beq i j&&Nat.beq o q
 | .iface t a,.iface u b=>Nat.beq t u&&eZ a b
 | .panic a,.panic b=>eZ a b
 | .agg l,.agg m=>je l m
 | .tuple l,.tuple m=>je l m
 | _,_=>false
def je:List AV->List AV->Bool
 | [],[]=>true
 | a :: l,b :: m=>eZ a b&&je l m
 | _,_=>false
end
mutual
def uB (p:Bool):AV->AV->AV
 | .int s k a,.int s' k' b=>if k=k' then match s||s' with
   | true=>.int true k (bif p then a else b)
   | false=>if a=b then .int false k a else .int true k (bif p then a else b)
  else .any true
 | .bool s a,.bool s' b=>match s||s' with
   | true=>.bool true (bif p then a else b)
   | false=>if a=b then .bool false a else .bool true (bif p then a else b)
 | .str _ a,.str _ b=>.str true (bif p then a else b)
 | .lslice i a,.lslice j b=>match Nat.beq i j with
  | true=>.lslice i (bif p then a else b)
  | false=>.any true
 | .islice w i o a,.islice w' j o' b=>match Nat.beq i j&&w==w' with
  | true=>.islice w i (bif p then o else o') (bif p then a else b)
  | false=>.any true
 | .agg l,.agg m=>match qI p l m with
  | none=>.any false
  | some r=>.agg r
 | .tuple l,.tuple m=>match qI p l m with
  | none=>.any false
  | some r=>.tuple r
 | a,b=>match eZ a b with
  | true=>a
  | false=>.any (a.isCell&&b.isCell)
def qI (p:Bool):List AV->List AV->Option (List AV)
 | [],[]=>some []
 | a :: l,b :: m=>match qI p l m with
  | none=>none
  | some r=>some (uB p a b :: r)
 | _,_=>none
end
end
end Go.Eng
namespace Go.Eng
noncomputable section
def nQ (c0:Nat) (p:Bool):List AT->List AT->List AT->Option (List AT)
 | [],[],[]=>some []
 | t0 :: l0,a :: l,b :: m=>match nQ c0 p l0 l m with
  | none=>none
  | some r=>match Nat.blt a.st c0&&Nat.blt b.st c0 with
   | true=>some (t0 :: r)
   | false=>some (⟨max a.st b.st,uB p a.v b.v⟩ :: r)
 | _,_,_=>none
def xn:Option Code->Option Code->Bool
 | none,none=>true
 | some .ret,some .ret=>true
 | some (.exit i),some (.exit j)=>Nat.beq i j
 | _,_=>false
def zW:LoopState->LoopState->Bool
 | .ready,.ready=>true
 | .busy,.busy=>true
 | .done,.done=>true
 | .exhausted,.exhausted=>true
 | _,_=>false
def fK (p:Bool) (b0:Option ABody) (a b:ABody):Option ABody:=
 match b0 with
 | some (.loop c)=>match a with
  | .loop x=>match b with
   | .loop y=>match zW x.state y.state&&xn x.pending y.pending with
    | true=>some (.loop { c with state:=x.state,pending:=x.pending })
    | false=>none
   | _=>none
  | _=>none
 | _=>match a with
  | .cells l=>match b with
   | .cells m=>match qI p l m with
    | none=>some .dead
    | some r=>some (.cells r)
   | _=>some .dead
  | .grown l=>match b with
   | .grown m=>match qI p l m with
    | none=>some .dead
    | some r=>some (.grown r)
   | _=>some .dead
  | .ints k xs=>match b with
   | .ints k' ys=>if k=k' then some (.ints k (bif p then xs else ys)) else some .dead
   | _=>some .dead
  | .defers x=>match b with
   | .defers y=>if x=y then some (.defers x) else some .dead
   | _=>some .dead
  | _=>some .dead
def lH (p:Bool):List ABlk->List ABlk->Option (List ABlk)
 | [],[]=>some []
 | a :: l,b :: m=>match lH p l m with
  | none=>none
  | some r=>match fK p none a.body b.body with
   | none=>none
   | some d=>some (⟨max a.wr b.wr,d⟩ :: r)
 | _,_=>none
def jf (c0:Nat) (p:Bool):List ABlk->List ABlk->List ABlk->Option (List ABlk)
 | [],[],[]=>some []
 | x :: l0,a :: l,b :: m=>match jf c0 p l0 l m with
  | none=>none
  | some r=>match Nat.blt a.wr c0&&Nat.blt b.wr c0 with
   | true=>some (x :: r)
   | false=>match fK p (some x.body) a.body b.body with
    | none=>none
    | some d=>some (⟨max a.wr b.wr,d⟩ :: r)
 | _,_,_=>none
def Gz (c0:Nat) (p:Bool) (extra:Nat) (l0 la lb:List ABlk):Option (List ABlk):=
 match bP extra la with
 | none=>none
 | some xa=>match bP extra lb with
  | none=>none
  | some xb=>match lH p xa xb with
   | none=>none
   | some u=>match jf c0 p l0 (aP extra la) (aP extra lb) with
    | none=>none
    | some v=>Ka u v some
def dJ:List ADef->List ADef->Bool
 | [],[]=>true
 | .collected a :: l,.collected b :: m=>Nat.beq a b&&dJ l m
 | .call f as :: l,.call g bs :: m=>Nat.beq f g&&je as bs&&dJ l m
 | _,_=>false
mutual
def AV.cut (n:Nat):AV->AV
 | .ptr i o=>bif Nat.blt i n then .ptr i o else .any true
 | .slice i o l c=>bif Nat.blt i n then .slice i o l c else .any true
 | .gslice i o l c=>bif Nat.blt i n then .gslice i o l c else .any true
 | .func f fs cs=>match AV.underL n fs&&AV.underL n cs with
  | true=>.func f fs cs
  | false=>.any true
 | .yield l=>bif Nat.blt l n then .yield l else .any true
 | .iface t v=>.iface t (v.cut n)
 | .map i=>bif Nat.blt i n then .map i else .any true
 | .vslice i l=>bif Nat.blt i n then .vslice i l else .any true
 | .pslice i l s k=>bif Nat.blt i n then .pslice i l s k else .any true
 | .lslice i k=>bif Nat.blt i n then .lslice i k else .any true
 | .islice w i o k=>bif Nat.blt i n then .islice w i o k else .any true
 | .panic v=>.panic (v.cut n)
 | .vptr i o=>bif Nat.blt i n then .vptr i o else .any true
 | .agg l=>.agg (AV.cutL n l)
 | .tuple l=>.tuple (AV.cutL n l)
 | .any c=>.any c
 | .bool s b=>.bool s b
 | .int s k x=>.int s k x
 | .str s b=>.str s b
 | .nil=>.nil
 | .nilslice=>.nilslice
 | .eslice b=>.eslice b
 | .nilfunc=>.nilfunc
 | .niliface=>.niliface
 | .nilmap=>.nilmap
def AV.cutL (n:Nat):List AV->List AV
 | []=>[]
 | a :: l=>AV.cut n a :: AV.cutL n l
end
def Kc (n:Nat):List AT->List AT
 | []=>[]
 | a :: l=>⟨a.st,a.v.cut n⟩ :: Kc n l
def ABody.cut (n:Nat):ABody->ABody
 | .cells l=>.cells (AV.cutL n l)
 | .grown l=>.grown (AV.cutL n l)
 | b=>b
def Ke (n:Nat):Nat->List ABlk->List ABlk
 | 0,l=>l.map fun b=>⟨b.wr,b.body.cut n⟩
 | _+1,[]=>[]
 | k+1,_ :: l=>Ke n k l
def iI (n:Nat):List ADef->Bool
 | []=>true
 | .collected i :: l=>Nat.blt i n&&iI n l
 | .call _ as :: l=>AV.underL n as&&iI n l
def qx (n:Nat) (s:St):List AT×List ABlk:=
 match Nat.beq s.hp.size n with
 | true=>(s.tmps,s.hp.blks)
 | false=>(Kc n s.tmps,Ke n (s.hp.size - n) s.hp.blks)
def DU:List AV->Option Int
 | []=>none
 | a :: l=>match l with
  | []=>match a with
   | .int false .i64 n=>some n
   | _=>none
  | _ :: _=>DU l
def R9:ABody->ABody->Bool
 | .cells l,.cells m=>match aP 23 l with
  | []=>false
  | _ :: _=>match DU l with
   | none=>false
   | some x=>match DU m with
    | none=>false
    | some y=>match decide (x=y) with
     | true=>false
     | false=>true
 | _,_=>false
def IR:List ABlk->List ABlk->Bool
 | a :: l,b :: m=>match R9 a.body b.body with
  | true=>true
  | false=>IR l m
 | _,_=>false
def jG (s0:St) (p:Bool) (a b:St):Option St:=
 let n:=Nat.min a.hp.size b.hp.size
 match IR (aP (a.hp.size - n) a.hp.blks) (aP (b.hp.size - n) b.hp.blks) with
 | true=>none
 | false=>
  match Nat.ble s0.hp.size n&&dJ a.defs b.defs&&iI n a.defs with
  | false=>none
  | true=>
   let x:=qx n a
   let y:=qx n b
   match nQ s0.hp.clock p s0.tmps x.1 y.1 with
   | none=>none
   | some t=>match Gz s0.hp.clock p (n - s0.hp.size) s0.hp.blks x.2 y.2 with
    | none=>none
    | some h=>some ⟨t,a.defs,⟨h,n,max a.hp.clock b.hp.clock⟩⟩
def BJ:Ex->Ex->Bool
 | .normal,.normal=>true
 | .ret,.ret=>true
 | .exit i,.exit j=>Nat.beq i j
 | .goto i,.goto j=>Nat.beq i j
 | .raise a,.raise b=>eZ a b
 | _,_=>false
def zX (s0:St) (p:Bool) (e:Ent):List Ent->Option (Ent×List Ent)
 | []=>none
 | f :: l=>match BJ e.x f.x with
  | true=>match jG s0 p e.s f.s with
   | some s=>some (⟨G.ite p e.g f.g,e.x,s⟩,l)
   | none=>match zX s0 p e l with
    | none=>none
    | some (r,l')=>some (r,f :: l')
  | false=>match zX s0 p e l with
   | none=>none
   | some (r,l')=>some (r,f :: l')
def rQ:List Ent->List Ent
 | [e]=>[⟨.tt,e.x,e.s⟩]
 | l=>l
def nI (s0:St) (p:Bool):List Ent->List Ent->List Ent
 | [],m=>m.map fun e=>⟨e.g.and !p,e.x,e.s⟩
 | e :: l,m=>match zX s0 p e m with
  | some (r,m')=>r :: nI s0 p l m'
  | none=>⟨e.g.and p,e.x,e.s⟩ :: nI s0 p l m
def DV (s0:St) (p:Bool) (a b:R):R:=⟨(Nd.imp (p=true) a.nd).and (Nd.imp (p=false) b.nd),rQ (nI s0 p a.l b.l)⟩
def xq (s0:St) (e:Ent):List Ent->List Ent
 | []=>[e]
 | f :: l=>match BJ e.x f.x with
  | true=>match e.g.on fun p=>jG s0 p e.s f.s with
   | some s=>⟨G.or e.g f.g,e.x,s⟩ :: l
   | none=>f :: xq s0 e l
  | false=>f :: xq s0 e l
def mg (s0:St) (g:G):List Ent->List Ent->List Ent
 | [],l=>l
 | e :: m,l=>xq s0 ⟨G.andG g e.g,e.x,e.s⟩ (mg s0 g m l)
def Sa (s0:St) (f:St->Option R):List Ent->Option R
 | []=>some ⟨.tt,[]⟩
 | e :: l=>match Sa s0 f l with
  | none=>none
  | some r=>match e.x with
   | .normal=>match f e.s with
    | none=>none
    | some q=>some ⟨(e.g.on fun p=>Nd.imp (p=true) q.nd).and r.nd,mg s0 e.g q.l r.l⟩
   | _=>some ⟨r.nd,xq s0 e r.l⟩
def nO (s0:St) (r:Option R) (f:St->Option R):Option R:=
 match r with
 | none=>none
 | some ⟨nd,[⟨.tt,.normal,s⟩]⟩=>match f s with
  | none=>none
  | some q=>some ⟨nd.and q.nd,q.l⟩
 | some ⟨nd,l⟩=>match Sa s0 f l with
  | none=>none
  | some q=>some ⟨nd.and q.nd,rQ q.l⟩
def DW (x:Ex) (s:St):Option R:=some ⟨.tt,[⟨.tt,x,s⟩]⟩
structure Rec where
 code:AFr->Code->St->Option R
 call:FuncId->List AV->Hp->Option CR
 yield:Nat->List AV->Hp->Option CR
def ai (C:Ctx) (s:St):Operand->AV
 | .tmp t=>match nth s.tmps t with
  | some a=>a.v
  | none=>aS
 | .const v=>match mf v with
  | some a=>a
  | none=>.any false
 | .global g=>match C.glob g with
  | some i=>.ptr i 0
  | none=>.any false
 | .func f=>.func f [] []
def dI (C:Ctx) (s:St):List Operand->List AV
 | []=>[]
 | x :: l=>ai C s x :: dI C s l
def eO (C:Ctx) (s:St):List (Nat×Operand)->List (Nat×AV)
 | []=>[]
 | (i,x) :: l=>(i,ai C s x) :: eO C s l
structure S1 where
 nd:Nd
 v:AV
 h:Hp
@[reducible] def S1.need (q:S1):Prop:=q.nd.val
abbrev bu:=Option S1
def jg (h:Hp):Option (Nd×AV)->bu
 | none=>none
 | some (nd,v)=>some ⟨nd,v,h⟩
def dU (h:Hp):Option AV->bu
 | none=>none
 | some v=>some ⟨.tt,v,h⟩
def nR (len:Nat) (s:Bool) (i:Int):Option (Nd×Nat):=
 match s with
 | false=>if 0<=i/\i<len then some (.tt,i.toNat) else none
 | true=>some (.p (0<=i/\i<len),i.toNat)
def nS (id off n:Nat):AV:=aC (off+n) fun o=>.ptr id o
def mh (P:Program) (t:TypeId) (x ix:AV):Option (Nd×AV):=
 match ix with
 | .int s _ i=>match P.underlying t,x with
  | some (.array len elem),.ptr id off=>match bY P elem,nR len s i with
   | some n,some (nd,j)=>match s with
    | false=>some (nd,nS id off (j*n))
    | true=>some (nd,.ptr id (off+j*n))
   | _,_=>none
  | some (.slice elem),.slice id off len _=>match bY P elem,nR len s i with
   | some n,some (nd,j)=>match s with
    | false=>some (nd,nS id off (j*n))
    | true=>some (nd,.ptr id (off+j*n))
   | _,_=>none
  | some (.slice elem),.vslice id len=>match bY P elem,nR len s i with
   | some n,some (nd,j)=>match s with
    | false=>some (nd,aC (j*n) fun o=>.vptr id o)
    | true=>some (nd,.vptr id (j*n))
   | _,_=>none
  | some (.slice elem),.pslice id l _ _=>match s with
   | false=>match bY P elem,nR l false i with
    | some n,some (nd,j)=>some (nd,aC (j*n) fun o=>.vptr id o)
    | _,_=>none
   | true=>none
  | some (.slice elem),.gslice id off len e=>match bY P elem,nR len s i with
   | some n,some (nd,j)=>if n=e then match s with
     | false=>some (nd,nS id off (j*n))
     | true=>some (nd,.ptr id (off+j*n))
    else none
   | _,_=>none
  | some (.slice elem),.lslice id n=>match bY P elem with
   | some 1=>some (.p (0<=i/\i<n),.vptr id i.toNat)
   | _=>none
  | some (.slice elem),.islice w id o n=>match bY P elem with
   | some 1=>match w with
    | true=>some (.p (0<=i/\i<n),.ptr id (o+i).toNat)
    | false=>some (.p (0<=o/\0<=i/\i<n),.vptr id (o+i).toNat)
   | _=>none
  | some (.array len elem),.vptr id off=>match s with
   | false=>match bY P elem,nR len false i with
    | some n,some (nd,j)=>some (nd,aC (off+j*n) fun o=>.vptr id o)
    | _,_=>none
   | true=>none
  | _,_=>none
 | _=>none
def xu (P:Program) (t:TypeId) (x ix:AV):Option AV:=
 match ix,x with
 | .int false _ i,.agg cs=>match P.underlying t with
  | some (.array len elem)=>match bY P elem with
   | none=>none
   | some n=>if 0<=i/\i<len then j5 P elem cs (i.toNat*n) else none
  | _=>none
 | .int false _ i,.str false b=>match P.underlying t with
  | some .string=>if 0<=i then match b.data.toList[i.toNat]? with
    | some c=>some (.int false .u8 c.toNat)
    | none=>none
   else none
  | _=>none
 | _,_=>none
def BK (P:Program) (t:TypeId) (x:AV) (f:Nat):Option AV:=
 match P.underlying t,x with
 | some (.struct fs),.agg cs=>match fs[f]? with
  | none=>none
  | some fd=>j5 P fd.type cs fd.offset
 | _,_=>none
def mi (P:Program) (t:TypeId) (x:AV) (f:Nat):Option AV:=
 match P.underlying t,x with
 | some (.struct fs),.ptr id off=>match fs[f]? with
  | none=>none
  | some fd=>match bY P fd.type with
   | some (_+1)=>some (nS id off fd.offset)
   | _=>none
 | _,_=>none
def dB (y:Nat):AV->Option Nat
 | .int false _ i=>match decide (0<=i/\i<=y) with
  | true=>some i.toNat
  | false=>none
 | _=>none
def jH (cap:Nat):Option AV->Option Nat
 | none=>some cap
 | some v=>dB cap v
def gX (len m:Nat) (mx:Option AV):Option AV->Option Nat
 | some v=>dB m v
 | none=>match mx with
  | none=>some len
  | some _=>none
def gu (h:Nat):Option AV->Option Nat
 | none=>some 0
 | some v=>dB h v
def bQ (len cap:Nat) (lo hi mx:Option AV):Option (Nat×Nat×Nat):=
 match jH cap mx with
 | none=>none
 | some m=>match gX len m mx hi with
  | none=>none
  | some h=>match gu h lo with
   | none=>none
   | some l=>some (l,h,m)
def xy (P:Program) (t:TypeId) (x:AV) (lo hi mx:Option AV):Option AV:=
 match P.underlying t with
 | some (.slice elem)=>match bY P elem with
  | none=>none
  | some n=>match x with
   | .slice id off len cap=>match bQ len cap lo hi mx with
    | none=>none
    | some (l,h,m)=>some (aC (bif Nat.beq m l then off else off+l*n) fun o=>aC (h - l) fun le=>aC (m - l) fun c=>.slice id o le c)
   | .gslice id off len e=>match mx with
    | some mx=>match bQ len len lo hi (some mx) with
     | none=>none
     | some (l,h,m)=>match Nat.beq n e&&Nat.blt 0 len with
      | true=>some (aC (bif Nat.beq m l then off else off+l*n) fun o=>aC (h - l) fun le=>aC (m - l) fun c=>.slice id o le c)
      | false=>none
    | none=>match bQ len len lo hi none with
     | none=>none
     | some (l,h,_)=>match Nat.beq n e with
      | true=>some (aC (off+l*n) fun o=>aC (h - l) fun le=>.gslice id o le e)
      | false=>none
   | .nilslice=>match bQ 0 0 lo hi mx with
    | none=>none
    | some _=>some .nilslice
   | _=>none
 | some (.array len elem)=>match bY P elem with
  | none=>none
  | some n=>match x with
   | .ptr id off=>match bQ len len lo hi mx with
    | none=>none
    | some (l,h,m)=>some (aC (bif Nat.beq m l then off else off+l*n) fun o=>aC (h - l) fun le=>aC (m - l) fun c=>.slice id o le c)
   | _=>none
 | some .string=>match x with
  | .str false b=>match mx with
   | some _=>none
   | none=>match bQ b.size b.size lo hi none with
    | none=>none
    | some (l,h,_)=>some (.str false (b.extract l h))
  | _=>none
 | _=>none
def BL (P:Program) (t:TypeId) (x ix:AV):Option (Nd×AV):=
 match xu P t x ix with
 | some v=>some (.tt,v)
 | none=>match ix with
  | .int _ _ i=>match x with
   | .str _ b=>match P.underlying t with
    | some .string=>some (.p (0<=i/\i<b.size),.int true .u8 (b.data.toList.getD i.toNat 0).toNat)
    | _=>none
   | _=>none
  | _=>none
def xz (d:Int):Option AV->Option Int
 | none=>some d
 | some (.int _ _ i)=>some i
 | some _=>none
def BM (P:Program) (t:TypeId) (x:AV) (lo hi mx:Option AV):Option (Nd×AV):=
 match xy P t x lo hi mx with
 | some v=>some (.tt,v)
 | none=>match mx with
  | some _=>none
  | none=>match x with
   | .str _ b=>match P.underlying t with
    | some .string=>match xz 0 lo with
     | none=>none
     | some l=>match xz b.size hi with
      | none=>none
      | some h=>some (.p (0<=l/\l<=h/\h<=b.size),.str true (b.extract l.toNat h.toNat))
    | _=>none
   | .pslice id l _ _=>match P.underlying t with
    | some (.slice elem)=>match bY P elem with
     | none=>none
     | some _=>match lo with
      | some _=>none
      | none=>match hi with
       | none=>none
       | some v=>match dB l v with
        | none=>none
        | some h=>some (.tt,aC h fun h=>.pslice id h false h)
    | _=>none
   | .lslice id n=>match P.underlying t with
    | some (.slice elem)=>match bY P elem with
     | none=>none
     | some sz=>match lo with
      | some (.int _ _ l)=>match Nat.beq sz 1 with
       | false=>none
       | true=>match xz n hi with
        | none=>none
        | some h=>some (.p (0<=l/\l<=h/\h<=n),.islice false id l (h - l))
      | some _=>none
      | none=>match hi with
       | some (.int _ _ h)=>some (.p (0<=h/\h<=n),.lslice id h)
       | _=>none
    | _=>none
   | .islice w id o n=>match P.underlying t with
    | some (.slice elem)=>match bY P elem with
     | some 1=>match xz 0 lo with
      | none=>none
      | some l=>match xz n hi with
       | none=>none
       | some h=>some (.p (0<=l/\l<=h/\h<=n),.islice w id (o+l) (h - l))
     | _=>none
    | _=>none
   | _=>none
def jh (C:Ctx) (s:St):Option Operand->Option AV
 | none=>none
 | some x=>some (ai C s x)
def Sb (P:Program) (t:TypeId):AV->Option (Nd×AV)
 | .vslice _ n=>match P.underlying t with
  | some (.slice _)=>some (.tt,.int false .i64 n)
  | _=>none
 | .pslice _ _ s n=>match P.underlying t with
  | some (.slice _)=>some (.tt,bB s .i64 n)
  | _=>none
 | .lslice _ n=>match P.underlying t with
  | some (.slice _)=>some (.tt,.int true .i64 n)
  | _=>none
 | .islice _ _ _ n=>match P.underlying t with
  | some (.slice _)=>some (.tt,.int true .i64 n)
  | _=>none
 | .slice _ _ n _=>match P.underlying t with
  | some (.slice _)=>some (.tt,.int false .i64 n)
  | _=>none
 | .gslice _ _ n _=>match P.underlying t with
  | some (.slice _)=>some (.tt,.int false .i64 n)
  | _=>none
 | .nilslice=>match P.underlying t with
  | some (.slice _)=>some (.tt,.int false .i64 0)
  | _=>none
 | .str s b=>match P.underlying t with
  | some .string=>some (.tt,bB s .i64 b.size)
  | _=>none
 | _=>match P.underlying t with
  | some (.array n _)=>some (.tt,.int false .i64 n)
  | _=>none
def min2:AV->AV->Option AV
 | .int s k x,.int s' _ y=>some (bB (s||s') k (if y<x then y else x))
 | _,_=>none
def max2:AV->AV->Option AV
 | .int s k x,.int s' _ y=>some (bB (s||s') k (if y>x then y else x))
 | _,_=>none
def IU (f:AV->AV->Option AV):AV->List AV->Option AV
 | a,[]=>some a
 | a,b :: l=>match f a b with
  | none=>none
  | some c=>IU f c l
def wM (P:Program):List Field->Option (List (Nat×Nat))
 | []=>some []
 | f :: fs=>match bY P f.type with
  | none=>none
  | some n=>match wM P fs with
   | none=>none
   | some r=>some ((f.offset,n) :: r)
def BN (P:Program) (t:TypeId) (parts:List (Nat×AV)):Option AV:=
 match zeroCells P t with
 | none=>none
 | some z=>match P.underlying t with
  | some (.struct fs)=>match wM P fs.toList with
   | none=>none
   | some ps=>match jU (nth ps) z parts with
    | none=>none
    | some l=>some (.agg l)
  | some (.array _ e)=>match bY P e with
   | none=>none
   | some n=>match jU (fun i=>some (i*n,n)) z parts with
    | none=>none
    | some l=>some (.agg l)
  | _=>none
def ji (h:Hp) (size:Nat):AV->Option (Nat×List AV)
 | .nilslice=>some (0,[])
 | .eslice _=>some (0,[])
 | .slice i off n _=>match h.get i with
  | some ⟨_,.cells l⟩=>(bP (n*size) (aP off l)).map fun r=>(n,r)
  | some ⟨_,.grown l⟩=>(bP (n*size) (aP off l)).map fun r=>(n,r)
  | _=>none
 | .gslice i off n _=>match h.get i with
  | some ⟨_,.grown l⟩=>(bP (n*size) (aP off l)).map fun r=>(n,r)
  | _=>none
 | .pslice i l false n=>match n with
  | .negSucc _=>none
  | .ofNat 0=>some (0,[])
  | .ofNat (m+1)=>match h.get i with
   | some ⟨_,.view c⟩=>match Nat.ble (m+1) l with
    | true=>(bP ((m+1)*size) c).map fun r=>(m+1,r)
    | false=>none
   | _=>none
 | _=>none
def pz:Nat:=1048576
def LW (h:Hp) (size n:Nat) (new:List AV):Option (AV×Hp):=
 match n with
 | 0=>some (.nilslice,h)
 | m+1=>match Nat.ble (m+1) pz with
  | true=>some (.gslice h.size 0 (m+1) size,h.push (.grown new))
  | false=>none
def IV (h:Hp) (size id off len cap n:Nat) (new:List AV):Option (AV×Hp):=
 match h.get id with
 | some ⟨_,.cells l⟩=>match bU l (off+len*size) new with
  | none=>none
  | some l'=>h.set id (.cells l') fun h=>some (aC (len+n) fun m=>.slice id off m cap,h)
 | _=>none
def IW (h:Hp) (size:Nat) (s:AV) (len n:Nat) (new:List AV):Option (AV×Hp):=
 match ji h size s with
 | none=>none
 | some (_,old)=>match Nat.ble (len+n) pz with
  | true=>Ka old new fun l=>some (aC (len+n) fun m=>.gslice h.size 0 m size,h.push (.grown l))
  | false=>none
def Vz (h:Hp) (size id off len esz n:Nat) (new:List AV):Option (AV×Hp):=
 match n with
 | 0=>some (.gslice id off len esz,h)
 | m+1=>match h.get id with
  | some ⟨_,.grown l⟩=>match Nat.beq esz size&&Nat.beq off 0&&Nat.blt 0 len&&Nat.beq l.length (len*esz)&&Nat.ble (len+(m+1)) pz with
   | true=>h.set id .dead fun h=>Ka l new fun l=>some (aC (len+(m+1)) fun m=>.gslice h.size 0 m esz,h.push (.grown l))
   | false=>none
  | _=>none
def IX (P:Program) (h:Hp) (t:TypeId) (s x:AV):Option (AV×Hp):=
 match P.underlying t with
 | some (.slice e)=>match P.info? e with
  | none=>none
  | some i=>match zeroCells P e with
   | none=>none
   | some z=>match Nat.beq z.length i.size&&Nat.ble i.bytes 65536 with
    | false=>none
    | true=>match ji h i.size x with
     | none=>none
     | some (n,new)=>match bD new with
      | false=>none
      | true=>match s with
       | .nilslice=>LW h i.size n new
       | .slice id off len cap=>match Nat.ble (len+n) cap with
        | true=>IV h i.size id off len cap n new
        | false=>IW h i.size (.slice id off len cap) len n new
       | .gslice id off len esz=>Vz h i.size id off len esz n new
       | _=>none
 | _=>none
def gI (kd:TypeDesc) (a b:AV):Option Bool:=
 match kd with
 | .int _=>match a,b with
  | .int false k x,.int false k' y=>if k=k' then some (x==y) else none
  | _,_=>none
 | .bool=>match a,b with
  | .bool false x,.bool false y=>some (x==y)
  | _,_=>none
 | .string=>match a,b with
  | .str false x,.str false y=>some (jF x y)
  | _,_=>none
 | _=>none
def vN (kd:TypeDesc) (k:AV):List (AV×AV)->Option (Option AV)
 | []=>some none
 | (a,v) :: l=>match gI kd k a with
  | none=>none
  | some true=>some (some v)
  | some false=>vN kd k l
def fo (kd:TypeDesc) (k:AV):List (AV×AV)->Bool
 | []=>true
 | (a,_) :: l=>match gI kd k a with
  | none=>false
  | some _=>fo kd k l
def zY (kd:TypeDesc) (k:AV) (es:List (AV×AV)):Option (Option AV):=
 match fo kd k es with
 | true=>vN kd k es
 | false=>none
def BO:TypeDesc->Bool
 | .int _=>true
 | .bool=>true
 | .string=>true
 | _=>false
def gy (P:Program) (h:Hp) (t:TypeId) (x k:AV) (ok:Bool):Option AV:=
 match P.underlying t with
 | some (.map kt e)=>match P.underlying kt with
  | none=>none
  | some kd=>match BO kd with
   | false=>none
   | true=>match x with
    | .map i=>match h.get i with
     | some ⟨_,.map es⟩=>match zY kd k es with
      | none=>none
      | some (some v)=>some (if ok then .tuple [v,.bool false true] else v)
      | some none=>match IM P e with
       | none=>none
       | some z=>some (if ok then .tuple [z,.bool false false] else z)
     | _=>none
    | _=>none
 | _=>none
def uC (kd:TypeDesc) (k v:AV):List (AV×AV)->List (AV×AV)
 | []=>[]
 | (a,x) :: l=>(match gI kd k a with
  | some true=>(a,v)
  | _=>(a,x)) :: uC kd k v l
def uD:AV->Option Nat
 | .nilslice=>some 0
 | .slice _ _ n _=>some n
 | .gslice _ _ n _=>some n
 | _=>none
def GA (h:Hp) (n:Nat):AV->Option (List AV)
 | .slice i off _ _=>match h.get i with
  | some ⟨_,.cells l⟩=>bP n (aP off l)
  | some ⟨_,.grown l⟩=>bP n (aP off l)
  | _=>none
 | .gslice i off _ _=>match h.get i with
  | some ⟨_,.grown l⟩=>bP n (aP off l)
  | _=>none
 | _=>match n with
  | 0=>some []
  | _=>none
def xA {β:Type} (h:Hp) (id off n:Nat) (cs:List AV) (no:β) (k:AV->Hp->β):β:=
 match h.get id with
 | some ⟨_,.cells l⟩=>match bU l off cs with
  | none=>no
  | some l'=>h.set id (.cells l') fun h=>k (bB false .i64 n) h
 | some ⟨_,.grown l⟩=>match bU l off cs with
  | none=>no
  | some l'=>h.set id (.grown l') fun h=>k (bB false .i64 n) h
 | _=>no
def LX {β:Type} (P:Program) (h:Hp) (t:TypeId) (d x:AV) (no:β) (k:AV->Hp->β):β:=
 match P.underlying t with
 | some (.slice e)=>match bY P e with
  | none=>no
  | some size=>match uD d with
   | none=>no
   | some ld=>match uD x with
    | none=>no
    | some lx=>match Nat.min lx ld with
     | 0=>k (.int false .i64 0) h
     | n+1=>match GA h ((n+1)*size) x with
      | none=>no
      | some cs=>match bD cs with
       | false=>no
       | true=>match d with
        | .slice id off _ _=>xA h id off (n+1) cs no k
        | .gslice id off _ _=>xA h id off (n+1) cs no k
        | _=>no
 | _=>no
def uE (h:Hp) (c a b:AV):bu:=
 match c with
 | .bool false p=>some ⟨.tt,bif p then a else b,h⟩
 | .bool true p=>some ⟨.tt,uB p a b,h⟩
 | _=>none
def rR (P:Program) (h:Hp) (t:TypeId):bu:=
 match zeroCells P t with
 | none=>none
 | some z=>match bD z with
  | true=>some ⟨.tt,.ptr h.size 0,h.push (.cells z)⟩
  | false=>none
def LY (h:Hp) (v:AV):bu:=
 match bD v.cellsA with
 | true=>some ⟨.tt,.ptr h.size 0,h.push (.cells v.cellsA)⟩
 | false=>none
def mq (P:Program) (h:Hp) (t:TypeId) (len:Nat) (parts:List (Nat×AV)):bu:=
 match P.underlying t with
 | some (.slice e)=>match bY P e with
  | none=>none
  | some n=>match zeroCells P e with
   | none=>none
   | some z=>match Nat.ble (len*n) 16777216&&Nat.beq z.length n&&bD z with
    | false=>none
    | true=>match jU (fun i=>some (i*n,n)) (qh z len) parts with
     | none=>none
     | some l=>some ⟨.tt,.slice h.size 0 len len,h.push (.cells l)⟩
 | _=>none
def iJ (h:Hp) (v:AV):bu:=
 match v with
 | .ptr i o=>some ⟨.tt,.ptr i o,h⟩
 | .func f a b=>some ⟨.tt,.func f a b,h⟩
 | _=>none
def jV (h:Hp) (v:AV) (i:Nat):bu:=
 match v with
 | .tuple l=>dU h (nth l i)
 | _=>none
def DX (P:Program) (t:TypeId):Option IntKind:=
 match P.underlying t with
 | some (.slice e)=>match P.underlying e with
  | some (.int k)=>match bY P e with
   | some 1=>some k
   | _=>none
  | _=>none
 | _=>none
def nJ (k:IntKind):List AV->Option (List Int)
 | []=>some []
 | .int _ k' n :: l=>match decide (k=k') with
  | true=>match nJ k l with
   | some ns=>some (n :: ns)
   | none=>none
  | false=>none
 | _ :: _=>none
def IY (h:Hp) (k:IntKind) (x:AV):Option (Nd×Int×List Int):=
 match x with
 | .lslice i n=>match h.get i with
  | some ⟨_,.rows k' xs⟩=>match decide (k=k') with
   | true=>some (.p (n=xs.length),n,xs)
   | false=>none
  | _=>none
 | .islice w i o n=>match h.get i with
  | some ⟨_,.rows k' xs⟩=>match w with
   | true=>none
   | false=>match decide (k=k') with
    | true=>some (.p (0<=o/\0<=n/\o+n<=xs.length),n,(xs.drop o.toNat).take n.toNat)
    | false=>none
  | some ⟨_,.ints k' xs⟩=>match w with
   | true=>match decide (k=k') with
    | true=>some (.p (0<=o/\0<=n/\o+n<=xs.length),n,(xs.drop o.toNat).take n.toNat)
    | false=>none
   | false=>none
  | _=>none
 | _=>match ji h 1 x with
  | some (n,cs)=>match nJ k cs with
   | some ns=>some (.tt,n,ns)
   | none=>none
  | none=>none
def BP (P:Program) (h:Hp) (t:TypeId) (l c:AV):bu:=
 match DX P t with
 | none=>none
 | some k=>match l with
  | .int _ _ n=>match c with
   | .int _ _ m=>match P.underlying t with
    | some (.slice e)=>match P.info? e with
     | none=>none
     | some i=>match zeroCells P e with
      | some [.int false k' 0]=>match decide (k=k')&&Nat.ble i.bytes 65536 with
       | true=>some ⟨.p (n=m/\0<=n/\n<=1048576),.islice true h.size 0 n,h.push (.ints k (List.replicate n.toNat 0))⟩
       | false=>none
      | _=>none
    | _=>none
   | _=>none
  | _=>none
def WQ (P:Program) (h:Hp) (t:TypeId) (s x:AV):bu:=
 match DX P t with
 | none=>none
 | some k=>match P.underlying t with
  | some (.slice e)=>match P.info? e with
   | none=>none
   | some i=>match zeroCells P e with
    | none=>none
    | some z=>match Nat.beq z.length i.size&&Nat.ble i.bytes 65536 with
     | false=>none
     | true=>match IY h k x with
      | none=>none
      | some (nd,m,ys)=>match s with
       | .nilslice=>some ⟨nd.and (.p (0<m/\m<=1048576)),.islice true h.size 0 m,h.push (.ints k ys)⟩
       | .slice _ _ 0 0=>some ⟨nd.and (.p (0<m/\m<=1048576)),.islice true h.size 0 m,h.push (.ints k ys)⟩
       | .islice true id o n=>match h.get id with
        | some ⟨_,.ints k' xs⟩=>match decide (k=k') with
         | true=>h.set id .dead fun h=>some ⟨nd.and (.p (o=0/\0<n/\n=xs.length/\n+m<=1048576)),.islice true h.size 0 (n+m),h.push (.ints k (xs++ys))⟩
         | false=>none
        | _=>none
       | .slice id off len cap=>match h.get id with
        | some ⟨_,.cells l⟩=>match Nat.beq off 0&&Nat.blt 0 len&&Nat.ble len cap&&Nat.ble cap l.length with
         | true=>match bP len l with
          | none=>none
          | some q=>match nJ k q with
           | none=>none
           | some xs=>h.set id .dead fun h=>some ⟨nd.and (.p (len+m<=1048576)),.islice true h.size 0 (len+m),h.push (.ints k (xs++ys))⟩
         | false=>none
        | _=>none
       | _=>none
  | _=>none
def Kg (xs:List Int) (o:Nat) (ys:List Int):List Int:=xs.take o++ys++xs.drop (o+ys.length)
def LZ (P:Program) (h:Hp) (t:TypeId) (d x:AV):bu:=
 match DX P t with
 | none=>none
 | some k=>match IY h k x with
  | none=>none
  | some (nd,m,ys)=>match d with
   | .islice true id o n=>match h.get id with
    | some ⟨_,.ints k' xs⟩=>match decide (k=k') with
     | true=>h.set id (.ints k (Kg xs o.toNat ys)) fun h=>some ⟨nd.and (.p (0<=o/\0<m/\m<=n/\o+n<=xs.length)),.int true .i64 m,h⟩
     | false=>none
    | _=>none
   | _=>none
def mr (P:Program) (h:Hp) (t:TypeId) (l c:AV):bu:=
 match P.underlying t with
 | some (.slice e)=>match l with
  | .int false _ n=>match c with
   | .int false _ m=>match P.info? e with
    | none=>none
    | some i=>match zeroCells P e with
     | none=>none
     | some z=>match decide (0<=n/\n<=m/\m*i.bytes<=140737488355328/\m<=4294967296)&&Nat.beq z.length i.size&&bD z with
      | true=>aC n.toNat fun n=>aC m.toNat fun m=>some ⟨.tt,.slice h.size 0 n m,h.push (.cells (qh z m))⟩
      | false=>none
   | _=>none
  | _=>none
 | _=>none
def nT (P:Program) (h:Hp) (t:TypeId) (l c:AV):bu:=
 match mr P h t l c with
 | some q=>some q
 | none=>BP P h t l c
def uF (P:Program) (h:Hp) (t:TypeId) (r:Option AV):bu:=
 match r with
 | none=>some ⟨.tt,.map h.size,h.push (.map [])⟩
 | some (.int _ _ _)=>match P.underlying t with
  | some (.map _ _)=>some ⟨.tt,.map h.size,h.push (.map [])⟩
  | _=>none
 | _=>none
def kN (P:Program) (h:Hp) (t:TypeId) (x k v:AV):bu:=
 match P.underlying t with
 | some (.map kt _)=>match P.underlying kt with
  | none=>none
  | some kd=>match BO kd with
   | false=>none
   | true=>match x with
    | .map i=>match h.get i with
     | some ⟨_,.map es⟩=>match gI kd k k with
      | some true=>match zY kd k es with
       | none=>none
       | some (some _)=>h.set i (.map (uC kd k v es)) fun h=>some ⟨.tt,aS,h⟩
       | some none=>h.set i (.map ((k,v) :: es)) fun h=>some ⟨.tt,aS,h⟩
      | _=>none
     | _=>none
    | _=>none
 | _=>none
def nU (P:Program) (h:Hp) (t:TypeId) (v:AV):bu:=
 match P.underlying t with
 | none=>none
 | some (.interface _)=>none
 | some _=>some ⟨.tt,.iface t v,h⟩
def mD (P:Program) (h:Hp) (v:AV) (asserted:TypeId) (ok:Bool):bu:=
 match P.underlying asserted with
 | none=>none
 | some (.interface _)=>none
 | some _=>
  let no:bu:=match ok with
   | true=>match IM P asserted with
    | none=>none
    | some z=>some ⟨.tt,.tuple [z,.bool false false],h⟩
   | false=>none
  match v with
  | .iface t a=>match Nat.beq t asserted with
   | true=>some ⟨.tt,bif ok then .tuple [a,.bool false true] else a,h⟩
   | false=>no
  | .niliface=>no
  | _=>none
def BQ (P:Program) (h:Hp) (t:TypeId) (a v:AV):bu:=LQ P h t a v none fun nd h=>some ⟨nd,aS,h⟩
def uG (P:Program) (h:Hp) (t u:TypeId) (a b:AV):bu:=
 match P.underlying u with
 | some (.slice _)=>match IX P h t a b with
  | none=>none
  | some (v,h)=>some ⟨.tt,v,h⟩
 | _=>none
def xB (P:Program) (h:Hp) (t u:TypeId) (a b:AV):bu:=
 match uG P h t u a b with
 | some q=>some q
 | none=>match P.underlying u with
  | some (.slice _)=>WQ P h t a b
  | _=>none
def GD (P:Program) (h:Hp) (t:TypeId) (a b:AV):bu:=
 match LX P h t a b none fun v h=>some ⟨.tt,v,h⟩ with
 | some q=>some q
 | none=>LZ P h t a b
def mE (h:Hp) (f:AV->AV->Option AV):List AV->bu
 | []=>none
 | v :: l=>dU h (IU f v l)
def iK (C:Ctx) (s:St) (b:Builtin) (args:List Operand) (types:List TypeId):bu:=
 match b with
 | .len=>match args,types with
  | [x],[t]=>jg s.hp (Sb C.P t (ai C s x))
  | _,_=>none
 | .copy=>match args,types with
  | [x,y],t :: _=>GD C.P s.hp t (ai C s x) (ai C s y)
  | _,_=>none
 | .append=>match args,types with
  | [x,y],[t,u]=>xB C.P s.hp t u (ai C s x) (ai C s y)
  | _,_=>none
 | .min=>mE s.hp min2 (dI C s args)
 | .max=>mE s.hp max2 (dI C s args)
 | _=>none
def qJ (C:Ctx) (s:St) (c:Call):bu:=
 match c.callee with
 | .builtin b=>iK C s b c.args.toList c.argTypes.toList
 | _=>none
def qK (C:Ctx) (s:St) (f:Fn) (first cap:List Operand):bu:=
 match f with
 | .func f=>some ⟨.tt,.func f (dI C s first) (dI C s cap),s.hp⟩
 | _=>none
def aL (C:Ctx) (s:St) (o:Op):bu:=
 match o with
 | .move x=>some ⟨.tt,ai C s x,s.hp⟩
 | .assign x=>some ⟨.tt,ai C s x,s.hp⟩
 | .pick c a b=>uE s.hp (ai C s c) (ai C s a) (ai C s b)
 | .alloc t=>rR C.P s.hp t
 | .box _ x=>LY s.hp (ai C s x)
 | .build t parts=>dU s.hp (BN C.P t (eO C s parts.toList))
 | .buildSlice t len parts=>mq C.P s.hp t len (eO C s parts.toList)
 | .load t x=>jg s.hp (jC C.P s.hp t (ai C s x))
 | .store t x y=>BQ C.P s.hp t (ai C s x) (ai C s y)
 | .nilCheck x=>iJ s.hp (ai C s x)
 | .binOp op t x y _=>jg s.hp (R8 C.P op t (ai C s x) (ai C s y))
 | .unOp op _ x=>dU s.hp (unV op (ai C s x))
 | .convert src dst x=>dU s.hp (IQ C.P src dst (ai C s x))
 | .makeFunc f first cap=>qK C s f first.toList cap.toList
 | .slice t x lo hi mx=>jg s.hp (BM C.P t (ai C s x) (jh C s lo) (jh C s hi) (jh C s mx))
 | .fieldAddr t x f=>dU s.hp (mi C.P t (ai C s x) f)
 | .field t x f=>dU s.hp (BK C.P t (ai C s x) f)
 | .indexAddr t x i=>jg s.hp (mh C.P t (ai C s x) (ai C s i))
 | .index t x i=>jg s.hp (BL C.P t (ai C s x) (ai C s i))
 | .lookup t x i ok=>dU s.hp (gy C.P s.hp t (ai C s x) (ai C s i) ok)
 | .extract t i=>jV s.hp (ai C s t) i
 | .makeSlice t l c=>nT C.P s.hp t (ai C s l) (ai C s c)
 | .makeMap t r=>uF C.P s.hp t (jh C s r)
 | .mapUpdate t m k v=>kN C.P s.hp t (ai C s m) (ai C s k) (ai C s v)
 | .insert t m k v=>kN C.P s.hp t (ai C s m) (ai C s k) (ai C s v)
 | .makeInterface t x=>nU C.P s.hp t (ai C s x)
 | .typeAssert x _ t ok=>mD C.P s.hp (ai C s x) t ok
 | .call c=>qJ C s c
 | _=>none
inductive Callee' where
 | func (f:FuncId) (args:List AV)
 | yield (l:Nat) (args:List AV)
def callee (f:AV) (args:List AV):Option Callee':=
 match f with
 | .func g first cap=>some (.func g (first++args++cap))
 | .yield l=>some (.yield l args)
 | _=>none
def bR (h:Hp):List ABody->Hp
 | []=>h
 | b :: l=>(bR h l).push b
def IZ (C:Ctx) (r:Rec) (h:Hp):Callee'->Option CR
 | .func f args=>match C.con f args h with
  | some (nd,v,bs)=>match v.isPanic with
   | true=>none
   | false=>some ⟨nd,[⟨.tt,v,bR h bs⟩]⟩
  | none=>match C.two f args h with
   | some (nd,p,v,w)=>match v.isPanic||w.isPanic with
    | true=>none
    | false=>some ⟨nd,[⟨.b p,v,h⟩,⟨.b !p,w,h⟩]⟩
   | none=>r.call f args h
 | .yield l args=>r.yield l args h
def mF (dst:Option Tmp) (s:St) (e:CEnt):Ent:=
 match e.v with
 | .panic a=>⟨e.g,.raise a,⟨s.tmps,s.defs,e.hp⟩⟩
 | v=>St.put ⟨s.tmps,s.defs,e.hp⟩ dst v (fun s'=>⟨e.g,.normal,s'⟩)
def lI (dst:Option Tmp) (s:St):List CEnt->List Ent
 | []=>[]
 | e :: l=>mF dst s e :: lI dst s l
def nV:List CEnt->Bool
 | []=>true
 | e :: l=>match e.v with
  | .panic a=>AV.under 0 a&&nV l
  | _=>nV l
def adj (C:Ctx):Callee'->Option (Nd×AV)
 | .func f args=>C.ext f args
 | _=>none
def xD (C:Ctx) (r:Rec) (s:St) (dst:Option Tmp) (f:Operand) (args:List Operand):Option R:=
 match callee (ai C s f) (dI C s args) with
 | none=>none
 | some k=>match adj C k with
  | some (nd,v)=>St.put s dst v fun s'=>some ⟨nd,[⟨.tt,.normal,s'⟩]⟩
  | none=>match IZ C r s.hp k with
   | none=>none
   | some q=>match nV q.l with
    | true=>some ⟨q.nd,lI dst s q.l⟩
    | false=>none
def dK (C:Ctx) (s:St) (o:Oper):Option R:=
 match aL C s o.op with
 | none=>none
 | some ⟨nd,v,h⟩=>St.put ⟨s.tmps,s.defs,h⟩ o.dst v fun s'=>some ⟨nd,[⟨.tt,.normal,s'⟩]⟩
def rT (s:St):AV->Option R
 | .iface t v=>match AV.under 0 v with
  | true=>some ⟨.tt,[⟨.tt,.raise (.iface t v),s⟩]⟩
  | false=>none
 | _=>none
def rU (C:Ctx) (r:Rec) (s:St) (o:Oper):Option R:=
 match o.op with
 | .call ⟨.value f,args,_⟩=>xD C r s o.dst f args.toList
 | .panic x=>rT s (ai C s x)
 | _=>dK C s o
def BR (C:Ctx) (s:St) (dst:Option Tmp) (f:Operand) (args:List Operand):Option R:=
 match callee (ai C s f) (dI C s args) with
 | some (.func g as)=>St.put ⟨s.tmps,.call g as :: s.defs,s.hp⟩ dst aS fun s'=>some ⟨.tt,[⟨.tt,.normal,s'⟩]⟩
 | _=>none
def DY (C:Ctx) (r:Rec) (s:St) (o:Oper):Option R:=
 match o.op with
 | .defer ⟨.value f,args,_⟩=>BR C s o.dst f args.toList
 | _=>rU C r s o
def mG (o:Oper):Bool:=
 match o.op with
 | .defer _=>true
 | _=>false
def nW:AV->AV->Option Nd
 | .int _ k x,.int _ k' y=>if k=k' then some (.p (x=y)) else none
 | .bool _ a,.bool _ b=>some (.p (a=b))
 | .str _ a,.str _ b=>some (.p (a=b))
 | _,_=>none
def GG (d:Nat) (v:AV) (q:Option R):Option R:=
 match q with
 | some ⟨nd,[⟨.tt,.normal,s⟩]⟩=>match nth s.tmps d with
  | some a=>match nW a.v v with
   | some m=>wI s.tmps d ⟨s.hp.clock,v⟩ fun t=>some ⟨nd.and m,[⟨.tt,.normal,⟨t,s.defs,s.hp⟩⟩]⟩
   | none=>q
  | none=>q
 | _=>q
def zZ (C:Ctx) (r:Rec) (s:St) (o:Oper):Option R:=
 match o.dst with
 | none=>DY C r s o
 | some d=>match C.hint s.hp.clock d with
  | none=>DY C r s o
  | some v=>GG d v (DY C r s o)
inductive Guard where
 | bad
 | go
 | skip
 | fork (d:Tmp) (p want:Bool)
def jw (ops:Array Oper) (s:St) (o:Oper):Guard:=
 match o.guard with
 | none=>.go
 | some (j,want)=>match ops[j]? with
  | none=>.bad
  | some g=>match g.dst with
   | none=>.bad
   | some d=>match nth s.tmps d with
    | some ⟨_,.bool false p⟩=>bif p==want then .go else .skip
    | some ⟨_,.bool true p⟩=>.fork d p want
    | some ⟨_,.tuple []⟩=>.skip
    | _=>.bad
def rV (C:Ctx) (r:Rec) (ops:Array Oper):List Oper->St->Option R
 | [],s=>DW .normal s
 | o :: l,s=>xk s fun s=>match jw ops s o with
  | .bad=>none
  | .go=>nO s (zZ C r s o) (rV C r ops l)
  | .skip=>St.put s o.dst aS (rV C r ops l)
  | .fork d p want=>
   let a:=wI s.tmps d ⟨s.hp.clock,.bool false true⟩ fun t=>
    let s1:St:=⟨t,s.defs,s.hp⟩
    bif want then nO s1 (zZ C r s1 o) (rV C r ops l) else St.put s1 o.dst aS (rV C r ops l)
   let b:=wI s.tmps d ⟨s.hp.clock,.bool false false⟩ fun t=>
    let s1:St:=⟨t,s.defs,s.hp⟩
    bif want then St.put s1 o.dst aS (rV C r ops l) else nO s1 (zZ C r s1 o) (rV C r ops l)
   match a with
   | none=>none
   | some u=>match b with
    | none=>none
    | some v=>some (DV s p u v)
structure It where
 i:Nat
 o:Oper
 k:Nat
 d:Option Tmp
 look:List Tmp
 bm:Nat
def j6 (o:Oper):Nat:=
 match o.op with
 | .alloc _=>match o.guard with
  | none=>1
  | some _=>2
 | .call { callee:=.builtin .len,.. }=>0
 | .call { callee:=.builtin .min,.. }=>0
 | .call { callee:=.builtin .max,.. }=>0
 | .move _=>0
 | .pick ..=>0
 | .build ..=>0
 | .load ..=>0
 | .nilCheck _=>0
 | .binOp ..=>0
 | .unOp ..=>0
 | .convert ..=>0
 | .makeFunc ..=>0
 | .slice ..=>0
 | .fieldAddr ..=>0
 | .field ..=>0
 | .indexAddr ..=>0
 | .index ..=>0
 | .extract ..=>0
 | .lookup _ _ _ ok=>match ok with
  | true=>2
  | false=>0
 | _=>2
def jy:List Operand->List Tmp
 | []=>[]
 | .tmp t :: l=>t :: jy l
 | _ :: l=>jy l
def mH (ops:Array Oper) (o:Oper):List Tmp:=
 match o.guard with
 | none=>[]
 | some (g,_)=>match ops[g]? with
  | none=>[]
  | some x=>match x.dst with
   | none=>[]
   | some t=>[t]
def mI (ops:Array Oper) (b:Array Nat):Nat->List Oper->List It
 | _,[]=>[]
 | i,o :: l=>⟨i,o,j6 o,o.dst,jy o.op.operands.toList++mH ops o,b.getD i 0⟩ :: mI ops b (i+1) l
def uH (k done:Nat):List It->Option (It×List It)
 | []=>none
 | x :: l=>match Nat.beq x.k k&&Nat.beq (Nat.land x.bm done) x.bm with
  | true=>some (x,l)
  | false=>match uH k done l with
   | none=>none
   | some (y,m)=>some (y,x :: m)
def xG:Nat->Nat->List It->Option (List It)
 | 0,_,l=>match l with
  | []=>some []
  | _=>none
 | n+1,done,l=>match (match uH 0 done l with
   | some r=>some r
   | none=>match uH 2 done l with
    | some r=>some r
    | none=>uH 1 done l) with
  | none=>none
  | some (x,m)=>match xG n (Nat.lor done (2 ^ x.i)) m with
   | none=>none
   | some r=>some (x :: r)
def GH (d:Option Tmp) (l:List Tmp):Bool:=
 match d with
 | none=>false
 | some t=>l.elem t
def I1 (a b:Option Tmp):Bool:=
 match a with
 | none=>false
 | some t=>match b with
  | none=>false
  | some u=>Nat.beq t u
def xH (p q:It):Bool:=
 (q.bm.testBit p.i||(!GH p.d q.look&&!I1 p.d q.d&&!GH q.d p.look)) &&
 (Nat.beq q.k 2||(!GH q.d p.look&&!I1 q.d p.d)) &&
 (Nat.beq p.k 0||Nat.beq q.k 1||q.bm.testBit p.i)
def pE:List It->Bool
 | []=>true
 | p :: l=>(Nat.beq p.k 2||!GH p.d p.look)&&l.all (xH p)&&pE l
def BS (i:Nat):List Edge->Bool
 | []=>true
 | e :: l=>(!Region.binds .any e||Nat.blt e.on i)&&BS i l
def rW:Nat->List Oper->Bool
 | _,[]=>true
 | i,o :: l=>BS i o.after.toList&&rW (i+1) l
def BU (ops:Array Oper):Option (List It):=
 match xG ops.size 0 (mI ops (Region.before ops) 0 ops.toList) with
 | none=>none
 | some l=>match pE l&&rW 0 ops.toList with
  | true=>some l
  | false=>none
abbrev gV:=List (Nat×TypeId×AV×AV)
mutual
def eqA:AV->AV->Option Nd
 | .any c,.any d=>bif c==d then some .tt else none
 | .bool s b,.bool s' b'=>bif s==s' then (match s with
  | true=>some (.p (b=b'))
  | false=>bif b==b' then some .tt else none) else none
 | .int s k x,.int s' k' y=>bif s==s' then (if k=k' then (match s with
  | true=>some (.p (x=y))
  | false=>if x=y then some .tt else none) else none) else none
 | .str s b,.str s' b'=>bif s==s' then (match s with
  | true=>some (.p (b=b'))
  | false=>bif jF b b' then some .tt else none) else none
 | .nil,.nil=>some .tt
 | .ptr i o,.ptr j q=>bif Nat.beq i j&&Nat.beq o q then some .tt else none
 | .nilslice,.nilslice=>some .tt
 | .eslice a,.eslice b=>bif a==b then some .tt else none
 | .slice i o l c,.slice i' o' l' c'=>bif Nat.beq i i'&&Nat.beq o o'&&Nat.beq l l'&&Nat.beq c c' then some .tt else none
 | .gslice i o l c,.gslice i' o' l' c'=>bif Nat.beq i i'&&Nat.beq o o'&&Nat.beq l l'&&Nat.beq c c' then some .tt else none
 | .vslice i l,.vslice j m=>bif Nat.beq i j&&Nat.beq l m then some .tt else none
 | .pslice i l s n,.pslice j m s' k=>bif Nat.beq i j&&Nat.beq l m&&s==s' then (match s with
  | true=>some (.p (n=k))
  | false=>if n=k then some .tt else none) else none
 | .lslice i n,.lslice j k=>bif Nat.beq i j then some (.p (n=k)) else none
 | .islice w i o n,.islice w' j q k=>bif Nat.beq i j&&w==w' then some (.p (o=q/\n=k)) else none
 | .nilfunc,.nilfunc=>some .tt
 | .niliface,.niliface=>some .tt
 | .map i,.map j=>bif Nat.beq i j then some .tt else none
 | .nilmap,.nilmap=>some .tt
 | .agg l,.agg m=>BV l m
 | .tuple l,.tuple m=>BV l m
 | .func f a b,.func g c d=>if f=g then (match BV a c with
  | none=>none
  | some p=>match BV b d with
   | none=>none
   | some q=>some (p.and q)) else none
 | _,_=>none
def BV:List AV->List AV->Option Nd
 | [],[]=>some .tt
 | a :: l,b :: m=>match eqA a b with
  | none=>none
  | some p=>match BV l m with
   | none=>none
   | some q=>some (p.and q)
 | _,_=>none
end
def jk (P:Program) (h:Hp) (t:TypeId) (a:AV):Option (Nd×AV):=
 match a with
 | .tuple [m,k]=>match gy P h t m k false with
  | none=>none
  | some v=>some (.tt,v)
 | _=>jC P h t a
def uI (P:Program) (h:Hp):gV->Option Nd
 | []=>some .tt
 | (_,t,ad,v) :: l=>match jk P h t ad with
  | none=>none
  | some (n,v')=>match eqA v v' with
   | none=>none
   | some p=>match uI P h l with
    | none=>none
    | some q=>some ((n.and p).and q)
def kg (bm:Nat):gV->gV
 | []=>[]
 | x :: l=>match bm.testBit x.1 with
  | true=>kg bm l
  | false=>x :: kg bm l
def BX (C:Ctx) (s:St) (x:It) (pend:gV):Option gV:=
 match x.o.op with
 | .load t a=>match ai C s a with
  | .ptr j off=>match jC C.P s.hp t (.ptr j off) with
   | some (_,v)=>some ((x.i,t,.ptr j off,v) :: pend)
   | none=>none
  | .vptr j off=>match jC C.P s.hp t (.vptr j off) with
   | some (_,v)=>some ((x.i,t,.vptr j off,v) :: pend)
   | none=>none
  | _=>none
 | .lookup t m k ok=>match ok with
  | true=>some pend
  | false=>match gy C.P s.hp t (ai C s m) (ai C s k) false with
   | some v=>some ((x.i,t,.tuple [ai C s m,ai C s k],v) :: pend)
   | none=>none
 | _=>some pend
def BZ (nd:Option Nd) (q:Option R):Option R:=
 match nd with
 | none=>none
 | some nd=>match q with
  | none=>none
  | some q=>some ⟨nd.and q.nd,q.l⟩
def bF (P:Program):List It->Bool
 | []=>true
 | x :: l=>(match Nat.beq x.k 1 with
  | true=>match x.o.op with
   | .alloc t=>match zeroCells P t with
    | some z=>bD z
    | none=>false
   | _=>false
  | false=>true)&&bF P l
def pF (ops:Array Oper) (s:St) (o:Oper) (go skip:St->Option R):Option R:=
 match jw ops s o with
 | .bad=>none
 | .go=>go s
 | .skip=>skip s
 | .fork d p want=>
  let a:=wI s.tmps d ⟨s.hp.clock,.bool false true⟩ fun t=>bif want then go ⟨t,s.defs,s.hp⟩ else skip ⟨t,s.defs,s.hp⟩
  let b:=wI s.tmps d ⟨s.hp.clock,.bool false false⟩ fun t=>bif want then skip ⟨t,s.defs,s.hp⟩ else go ⟨t,s.defs,s.hp⟩
  match a with
  | none=>none
  | some u=>match b with
   | none=>none
   | some v=>some (DV s p u v)
def VA (C:Ctx) (s:St) (k:St->Option R):Option R:=
 match C.hintT s.hp.clock with
 | none=>k s
 | some (d,v)=>match nth s.tmps d with
  | some a=>match nW a.v v with
   | some m=>match wI s.tmps d ⟨s.hp.clock,v⟩ fun t=>k ⟨t,s.defs,s.hp⟩ with
    | none=>none
    | some q=>some ⟨m.and q.nd,q.l⟩
   | none=>k s
  | none=>k s
def jI (c:Nat) (ds:List Nat):Nat->List AT->List AT
 | _,[]=>[]
 | i,a :: l=>(bif ds.elem i then ⟨c,.any false⟩ else a) :: jI c ds (i+1) l
def uJ:List Oper->List Nat
 | []=>[]
 | o :: l=>match o.dst with
  | none=>uJ l
  | some d=>d :: uJ l
def pG (ops:List Oper) (e:Ent):Ent:=
 match e.x with
 | .raise a=>⟨e.g,.raise a,⟨jI e.s.hp.clock (uJ ops) 0 e.s.tmps,e.s.defs,e.s.hp⟩⟩
 | _=>e
def rX (ops:List Oper):Option R->Option R
 | none=>none
 | some ⟨nd,[⟨.tt,.normal,s⟩]⟩=>some ⟨nd,[⟨.tt,.normal,s⟩]⟩
 | some ⟨nd,l⟩=>some ⟨nd,l.map (pG ops)⟩
def nX (C:Ctx) (r:Rec) (ops:Array Oper):List It->gV->St->Option R
 | [],_,s=>DW .normal s
 | x :: l,pend,s=>xk s fun s=>VA C s fun s=>match Nat.beq x.k 2 with
  | true=>pF ops s x.o
    (fun s=>nO s (rX ops.toList (rU C r s x.o)) fun s1=>BZ (uI C.P s1.hp (kg x.bm pend)) (nX C r ops l (kg x.bm pend) s1))
    (fun s=>St.put s x.o.dst aS (nX C r ops l (kg x.bm pend)))
  | false=>pF ops s x.o
    (fun s=>match BX C s x pend with
     | none=>none
     | some pend'=>nO s (dK C s x.o) (nX C r ops l pend'))
    (fun s=>St.put s x.o.dst aS (nX C r ops l pend))
def kX (id:Nat) (e:Ent):Ent:=
 match e.x with
 | .exit i=>bif Nat.beq i id then ⟨e.g,.normal,e.s⟩ else e
 | _=>e
def qL (s0:St) (id:Nat):List Ent->List Ent
 | []=>[]
 | e :: l=>xq s0 (kX id e) (qL s0 id l)
def wN (a:Code):List Ent->Bool
 | []=>true
 | e :: l=>(match e.x with
  | .goto i=>match findLabel a i with
   | none=>true
   | some _=>false
  | _=>true)&&wN a l
def L6:Option Code->Option Ex
 | none=>some .normal
 | some .ret=>some .ret
 | some (.exit i)=>some (.exit i)
 | some (.goto i)=>some (.goto i)
 | _=>none
def rY (s:St) (l:Nat) (e:CEnt):Option Ent:=
 match e.v.isPanic with
 | true=>none
 | false=>match e.hp.get l with
  | some ⟨_,.loop a⟩=>match a.state with
   | .busy=>none
   | _=>match L6 a.pending with
    | none=>none
    | some x=>e.hp.set l (.loop { a with state:=.exhausted }) fun h=>some ⟨e.g,x,⟨s.tmps,s.defs,h⟩⟩
  | _=>none
def rZ (s:St) (l:Nat):List CEnt->Option (List Ent)
 | []=>some []
 | e :: m=>match rY s l e,rZ s l m with
  | some a,some b=>some (a :: b)
  | _,_=>none
def GI (fr:AFr) (s:St):Option (Nat×List ADef×Hp):=
 match fr.round with
 | some l=>match s.hp.get l with
  | some ⟨_,.loop a⟩=>some (a.defers,[],s.hp)
  | _=>none
 | none=>some (s.hp.size,[.collected s.hp.size],s.hp.push (.defers false))
def L8 (q:Option R):R:=
 match q with
 | none=>⟨.p False,[]⟩
 | some q=>q
def L9 (r:Rec) (fr:AFr) (x:AV) (a b:Code) (s:St):Option R:=
 match x with
 | .bool false p=>bif p then r.code fr a s else r.code fr b s
 | .bool true p=>xk s fun s=>some (DV s p (L8 (r.code fr a s)) (L8 (r.code fr b s)))
 | _=>none
def Ca (C:Ctx) (r:Rec) (fr:AFr) (f:AV) (params:List Tmp) (assign body:Code) (s:St):Option R:=
 match GI fr s with
 | none=>none
 | some (d,mark,h)=>match f with
  | .func g first cap=>
   let l:=h.size
   let h':=h.push (.loop { state:=.ready,pending:=none,fn:=fr.fn,tmps:=s.tmps,params,assign,body,defers:=d })
   match IZ C r h' (.func g (first++[.yield l]++cap)) with
   | none=>none
   | some q=>match rZ ⟨s.tmps,mark++s.defs,h'⟩ l q.l with
    | none=>none
    | some m=>some ⟨q.nd,m⟩
  | _=>none
def xI (a:Code):Option R->Option R
 | none=>none
 | some q=>match wN a q.l with
  | true=>some q
  | false=>none
def xJ (C:Ctx) (r:Rec) (fr:AFr) (c:Code) (s:St):Option R:=
 match c with
 | .skip=>DW .normal s
 | .label _=>DW .normal s
 | .ret=>DW .ret s
 | .exit i=>DW (.exit i) s
 | .goto i=>DW (.goto i) s
 | .seq a b=>nO s (r.code fr a s) (r.code fr b)
 | .region _ ops false=>match fr.round with
  | none=>rV C r ops ops.toList s
  | some _=>match ops.toList.any mG with
   | true=>none
   | false=>rV C r ops ops.toList s
 | .region _ ops true=>match BU ops with
  | none=>none
  | some l=>match bF C.P l with
   | true=>nX C r ops l [] s
   | false=>none
 | .cond x a b=>L9 r fr (ai C s x) a b s
 | .block i a=>xk s fun s=>match r.code fr a s with
  | none=>none
  | some ⟨nd,l⟩=>some ⟨nd,rQ (qL s i l)⟩
 | .scope a=>xI a (r.code fr a s)
 | .loop a=>match C.loop fr a s with
  | some q=>some q
  | none=>nO s (r.code fr a s) (r.code fr (.loop a))
 | .rangeFunc f params assign body=>Ca C r fr (ai C s f) params.toList assign body s
 | _=>none
def Cb (n:Nat):List AT->Bool
 | []=>true
 | a :: l=>AV.under n a.v&&Cb n l
def gY (e:ABlk) (c n:Nat):Bool:=
 match Nat.blt e.wr c with
 | true=>true
 | false=>match e.body with
  | .cells l=>AV.underL n l
  | .grown l=>AV.underL n l
  | .ints _ _=>true
  | .defers _=>true
  | .dead=>true
  | .map _=>false
  | .view _=>false
  | .hold _=>false
  | .rows _ _=>true
  | .loop a=>Nat.blt a.defers n&&Cb n a.tmps
def nY (c n:Nat):List ABlk->Bool
 | []=>true
 | e :: l=>gY e c n&&nY c n l
mutual
def AV.refs (n:Nat) (acc:List Nat):AV->List Nat
 | .ptr i _=>bif Nat.blt i n||acc.elem i then acc else acc++[i]
 | .slice i _ _ _=>bif Nat.blt i n||acc.elem i then acc else acc++[i]
 | .gslice i _ _ _=>bif Nat.blt i n||acc.elem i then acc else acc++[i]
 | .func _ fs cs=>AV.refsL n (AV.refsL n acc fs) cs
 | .yield l=>bif Nat.blt l n||acc.elem l then acc else acc++[l]
 | .iface _ v=>AV.refs n acc v
 | .map i=>bif Nat.blt i n||acc.elem i then acc else acc++[i]
 | .vslice i _=>bif Nat.blt i n||acc.elem i then acc else acc++[i]
 | .pslice i _ _ _=>bif Nat.blt i n||acc.elem i then acc else acc++[i]
 | .lslice i _=>bif Nat.blt i n||acc.elem i then acc else acc++[i]
 | .islice _ i _ _=>bif Nat.blt i n||acc.elem i then acc else acc++[i]
 | .panic v=>AV.refs n acc v
 | .vptr i _=>bif Nat.blt i n||acc.elem i then acc else acc++[i]
 | .agg l=>AV.refsL n acc l
 | .tuple l=>AV.refsL n acc l
 | .any _=>acc
 | .bool _ _=>acc
 | .int _ _ _=>acc
 | .str _ _=>acc
 | .nil=>acc
 | .nilslice=>acc
 | .eslice _=>acc
 | .nilfunc=>acc
 | .niliface=>acc
 | .nilmap=>acc
def AV.refsL (n:Nat) (acc:List Nat):List AV->List Nat
 | []=>acc
 | a :: l=>AV.refsL n (AV.refs n acc a) l
end
def qy (n:Nat) (ids:List Nat) (i:Nat):Nat:=bif Nat.blt i n then i else aC (n+ids.idxOf i) fun j=>j
mutual
def AV.ren (ρ:Nat->Nat):AV->AV
 | .ptr i o=>.ptr (ρ i) o
 | .slice i o l c=>.slice (ρ i) o l c
 | .gslice i o l c=>.gslice (ρ i) o l c
 | .func f fs cs=>.func f (AV.renL ρ fs) (AV.renL ρ cs)
 | .yield l=>.yield (ρ l)
 | .iface t v=>.iface t (AV.ren ρ v)
 | .map i=>.map (ρ i)
 | .vslice i l=>.vslice (ρ i) l
 | .pslice i l s k=>.pslice (ρ i) l s k
 | .lslice i k=>.lslice (ρ i) k
 | .islice w i o k=>.islice w (ρ i) o k
 | .panic v=>.panic (AV.ren ρ v)
 | .vptr i o=>.vptr (ρ i) o
 | .agg l=>.agg (AV.renL ρ l)
 | .tuple l=>.tuple (AV.renL ρ l)
 | .any c=>.any c
 | .bool s b=>.bool s b
 | .int s k x=>.int s k x
 | .str s b=>.str s b
 | .nil=>.nil
 | .nilslice=>.nilslice
 | .eslice b=>.eslice b
 | .nilfunc=>.nilfunc
 | .niliface=>.niliface
 | .nilmap=>.nilmap
def AV.renL (ρ:Nat->Nat):List AV->List AV
 | []=>[]
 | a :: l=>AV.ren ρ a :: AV.renL ρ l
end
def pick (h:Hp) (n:Nat):List Nat->List ABlk->Option (List ABlk)
 | [],acc=>some acc
 | i :: l,acc=>match h.get i with
  | some ⟨w,.cells m⟩=>match AV.underL n m with
   | true=>pick h n l (⟨w,.cells m⟩ :: acc)
   | false=>none
  | some ⟨w,.grown m⟩=>match AV.underL n m with
   | true=>pick h n l (⟨w,.grown m⟩ :: acc)
   | false=>none
  | some ⟨w,.ints k m⟩=>pick h n l (⟨w,.ints k m⟩ :: acc)
  | some ⟨w,.rows k m⟩=>pick h n l (⟨w,.rows k m⟩ :: acc)
  | _=>none
def gc (n c:Nat) (v:AV) (h:Hp):AV×Hp:=
 match Nat.beq h.size n with
 | true=>(v,h)
 | false=>
  let old:=aP (h.size - n) h.blks
  match nY c n old with
  | true=>match AV.refs n [] v with
   | []=>(v,⟨old,n,h.clock⟩)
   | ids=>match pick h n ids old with
    | some l=>(AV.ren (qy n ids) v,⟨l,n+ids.length,h.clock⟩)
    | none=>(v,h)
  | false=>(v,h)
def qM:Nat->List AT
 | 0=>[]
 | n+1=>⟨0,aS⟩ :: qM n
def DZ:List AV->List AT
 | []=>[]
 | v :: l=>⟨0,v⟩ :: DZ l
def zK (P:Program) (tm:List AT) (h:Hp):List ResultVar->Option (Nd×List AV)
 | []=>some (.tt,[])
 | .tmp t :: l=>match nth tm t with
  | none=>none
  | some a=>match zK P tm h l with
   | none=>none
   | some (nd,r)=>some (nd,a.v :: r)
 | .cell a t :: l=>match nth tm a with
  | none=>none
  | some x=>match jC P h t x.v with
   | none=>none
   | some (m,y)=>match zK P tm h l with
    | none=>none
    | some (nd,r)=>some (m.and nd,y :: r)
def tup:List AV->AV
 | [v]=>v
 | l=>.tuple l
def pI:List ADef->Hp->Option Hp
 | [],h=>some h
 | .collected i :: l,h=>match h.get i with
  | some ⟨_,.defers false⟩=>h.set i (.defers true) fun h=>pI l h
  | _=>none
 | .call _ _ :: _,_=>none
def aa1:Option AV->AV
 | none=>.niliface
 | some a=>a
def Cc (C:Ctx) (r:Rec) (ops:Array Oper) (p:Option AV):List Oper->St->Option R
 | [],_=>none
 | o :: l,s=>match o.guard with
  | some _=>none
  | none=>match o.op with
   | .call ⟨.builtin .recover,_,_⟩=>St.put s o.dst (aa1 p) (rV C r ops l)
   | _=>match dK C s o with
    | some ⟨nd,[⟨.tt,.normal,s1⟩]⟩=>match Cc C r ops p l s1 with
     | none=>none
     | some q=>some ⟨nd.and q.nd,q.l⟩
    | _=>none
def Ce (C:Ctx) (r:Rec) (fr:AFr) (p:Option AV):Code->St->Option R
 | .seq a b,s=>nO s (Ce C r fr p a s) (r.code fr b)
 | .block i a,s=>xk s fun s=>match Ce C r fr p a s with
  | none=>none
  | some ⟨nd,l⟩=>some ⟨nd,rQ (qL s i l)⟩
 | .scope a,s=>xI a (Ce C r fr p a s)
 | .region _ ops false,s=>match fr.round with
  | none=>Cc C r ops p ops.toList s
  | some _=>none
 | _,_=>none
def Kh (C:Ctx) (n c:Nat) (fn:Func) (e:Ent):Option (Nd×CEnt):=
 match e.x with
 | .normal=>endR C n c fn e
 | .ret=>endR C n c fn e
 | _=>none
where endR (C:Ctx) (n c:Nat) (fn:Func) (e:Ent):Option (Nd×CEnt):=
 match pI e.s.defs e.s.hp with
 | none=>none
 | some h=>match zK C.P e.s.tmps h fn.results.toList with
  | none=>none
  | some (nd,_)=>some (nd,⟨e.g,.nil,(gc n c .nil h).2⟩)
def I4 (C:Ctx) (n c:Nat) (fn:Func):List Ent->Option (Nd×List CEnt)
 | []=>some (.tt,[])
 | e :: l=>match Kh C n c fn e,I4 C n c fn l with
  | some (nd,a),some (m,r)=>some ((e.g.on fun p=>Nd.imp (p=true) nd).and m,a :: r)
  | _,_=>none
def Mc:Bool->Bool->Bool
 | true,b=>b
 | false,true=>false
 | false,false=>true
def Sc:AV->AV->Bool
 | .tuple l,.tuple m=>match DU l with
  | none=>false
  | some x=>match DU m with
   | none=>false
   | some y=>match decide (x=y) with
    | true=>false
    | false=>true
 | _,_=>false
def GJ (pt:Bool) (s0:St) (g:Bool) (a b:CEnt):Option CEnt:=
 match Mc a.v.isPanic b.v.isPanic&&!(pt&&Sc a.v b.v) with
 | false=>none
 | true=>match jG s0 g ⟨[⟨s0.hp.clock,a.v⟩],[],a.hp⟩ ⟨[⟨s0.hp.clock,b.v⟩],[],b.hp⟩ with
  | some ⟨[t],_,h⟩=>match Mc t.v.isPanic a.v.isPanic with
   | true=>some ⟨.tt,t.v,h⟩
   | false=>none
  | _=>none
def GK (pt:Bool) (s0:St) (e:CEnt):List CEnt->List CEnt
 | []=>[e]
 | f :: l=>match e.g.on fun p=>GJ pt s0 p e f with
  | some c=>⟨G.or e.g f.g,c.v,c.hp⟩ :: l
  | none=>f :: GK pt s0 e l
def xK (pt:Bool) (s0:St):List CEnt->List CEnt
 | []=>[]
 | e :: l=>GK pt s0 e (xK pt s0 l)
def D5:List CEnt->List CEnt
 | [e]=>[⟨.tt,e.v,e.hp⟩]
 | l=>l
def GL (C:Ctx) (r:Rec) (f:FuncId) (args:List AV) (p:Option AV) (h:Hp):Option (Nd×Hp):=
 match C.P.funcs[f]? with
 | none=>none
 | some fn=>match fn.body with
  | none=>none
  | some c=>aC (h.clock+1) fun ck=>
   let h:=⟨h.blks,h.size,ck⟩
   match Ce C r ⟨f,none⟩ p c ⟨DZ args++qM (fn.ntmps - args.length),[],h⟩ with
   | none=>none
   | some q=>match I4 C h.size ck fn q.l with
    | none=>none
    | some (nd,l)=>match D5 (xK false ⟨[⟨0,aS⟩],[],h⟩ l) with
     | [⟨.tt,_,k⟩]=>some (q.nd.and nd,k)
     | _=>none
def uK (C:Ctx) (r:Rec):List ADef->Option AV->Hp->Option (Nd×Option AV×Hp)
 | [],p,h=>some (.tt,p,h)
 | .collected i :: l,p,h=>match h.get i with
  | some ⟨_,.defers false⟩=>h.set i (.defers true) fun h=>uK C r l p h
  | _=>none
 | .call f as :: l,p,h=>match GL C r f as p h with
  | none=>none
  | some (nd,k)=>match uK C r l none k with
   | none=>none
   | some (m,p',k')=>some (nd.and m,p',k')
def WR:Ex->Option (Option AV)
 | .normal=>some none
 | .ret=>some none
 | .raise a=>some (some a)
 | _=>none
def Sd (C:Ctx) (r:Rec) (n c:Nat) (fn:Func) (e:Ent):Option (Nd×CEnt):=
 match WR e.x with
 | none=>none
 | some p=>match uK C r e.s.defs p e.s.hp with
  | none=>none
  | some (nd,some a,h)=>let w:=gc n c (.panic a) h; some (nd,⟨e.g,w.1,w.2⟩)
  | some (nd,none,h)=>match zK C.P e.s.tmps h fn.results.toList with
   | none=>none
   | some (m,vs)=>let v:=tup vs; match v.isPanic with
    | true=>none
    | false=>let w:=gc n c v h; some (nd.and m,⟨e.g,w.1,w.2⟩)
def Si (C:Ctx) (r:Rec) (n c:Nat) (fn:Func):List Ent->Option (Nd×List CEnt)
 | []=>some (.tt,[])
 | e :: l=>match Sd C r n c fn e,Si C r n c fn l with
  | some (nd,a),some (m,r)=>some ((e.g.on fun p=>Nd.imp (p=true) nd).and m,a :: r)
  | _,_=>none
def Md (C:Ctx) (r:Rec) (f:FuncId) (args:List AV) (h:Hp):Option CR:=
 match C.P.funcs[f]? with
 | none=>none
 | some fn=>match fn.body with
  | none=>none
  | some c=>aC (h.clock+1) fun ck=>
   let h:=⟨h.blks,h.size,ck⟩
   match r.code ⟨f,none⟩ c ⟨DZ args++qM (fn.ntmps - args.length),[],h⟩ with
   | none=>none
   | some q=>match Si C r h.size ck fn q.l with
    | none=>none
    | some (nd,l)=>some ⟨q.nd.and nd,D5 (xK (C.part f) ⟨[⟨0,aS⟩],[],h⟩ l)⟩
def Cf:List Tmp->List AV->List AT->Option (List AT)
 | [],[],t=>some t
 | p :: ps,a :: as,t=>wI t p ⟨0,a⟩ fun t=>Cf ps as t
 | _,_,_=>none
def Me:Ex->Option Code
 | .normal=>none
 | .ret=>some .ret
 | .exit i=>some (.exit i)
 | .goto i=>some (.goto i)
 | .raise _=>none
def pJ (n c l:Nat) (e:Ent):Option CEnt:=
 match e.s.hp.get l with
 | some ⟨_,.loop a⟩=>match e.x with
  | .normal=>e.s.hp.set l (.loop { a with state:=.ready,pending:=none }) fun h=>some ⟨e.g,.bool false true,(gc n c (.bool false true) h).2⟩
  | .raise _=>none
  | x=>e.s.hp.set l (.loop { a with state:=.done,pending:=Me x }) fun h=>some ⟨e.g,.bool false false,(gc n c (.bool false false) h).2⟩
 | _=>none
def pK (n c l:Nat):List Ent->Option (List CEnt)
 | []=>some []
 | e :: m=>match pJ n c l e,pK n c l m with
  | some a,some b=>some (a :: b)
  | _,_=>none
def GM (r:Rec) (l:Nat) (args:List AV) (h:Hp):Option CR:=
 match h.get l with
 | some ⟨_,.loop a⟩=>match Cf a.params args a.tmps with
  | none=>none
  | some t=>aC (h.clock+1) fun ck=>
   let h:=⟨h.blks,h.size,ck⟩
   let fr:AFr:=⟨a.fn,some l⟩
   match r.code fr a.assign ⟨t,[],h⟩ with
   | some ⟨nd,[⟨.tt,.normal,s⟩]⟩=>match s.hp.get l with
    | some ⟨_,.loop b⟩=>match b.state with
     | .ready=>s.hp.set l (.loop { b with state:=.busy }) fun h2=>
      match r.code fr b.body ⟨s.tmps,s.defs,h2⟩ with
      | none=>none
      | some q=>match pK h.size ck l q.l with
       | none=>none
       | some m=>some ⟨nd.and q.nd,D5 (xK false ⟨[⟨0,aS⟩],[],h⟩ m)⟩
     | _=>none
    | _=>none
   | _=>none
 | _=>none
def Sj (C:Ctx) (r:Rec):Rec:=⟨xJ C r,Md C r,GM r⟩
def Sk:Rec:=⟨fun _ _ _=>none,fun _ _ _=>none,fun _ _ _=>none⟩
def run (C:Ctx) (n:Nat):Rec:=Nat.rec Sk (fun _ r=>Sj C r) n
end
end Go.Eng
namespace Go.Eng
abbrev Sg:=Nat->Option (Nat×Nat)
def Sub (σ τ:Sg):Prop:=∀ i x,σ i=some x->τ i=some x
theorem Sub.refl (σ:Sg):Sub σ σ:=fun _ _ h=>h
theorem Sub.trans {σ τ υ:Sg} (h:Sub σ τ) (k:Sub τ υ):Sub σ υ:=fun i x e=>k i x (h i x e)
def ISl (w:Bool) (o:Int) (c b N:Nat) (p:Option Addr):Prop:=∃ q:Nat,p=some ⟨b,q,none⟩/\(q:Int)=(bif w then 0 else (N:Int))+o/\(w=true->q+c<=N)
mutual
def VRel (σ:Sg):AV->Value->Prop
 | .any false,_=>True
 | .any true,v=>(∀ c,v≠.agg c)/\(∀ c,v≠.tuple c)
 | .bool _ b,v=>v=.bool b
 | .int _ k n,v=>v=.int k n
 | .str _ b,v=>v=.string b
 | .nil,v=>v=.pointer none
 | .ptr i o,v=>∃ b N,σ i=some (b,N)/\v=.pointer (some ⟨b,o,none⟩)
 | .nilslice,v=>v=.slice none 0 0
 | .eslice b,v=>∃ a c,v=.slice a 0 c/\a.isNone=b
 | .slice i o l c,v=>∃ b N,σ i=some (b,N)/\v=.slice (some ⟨b,o,none⟩) l c
 | .gslice i o l e,v=>∃ b N q c,σ i=some (b,N)/\v=.slice (some ⟨b,q,none⟩) l c/\(l≠0->q=o/\q+c*e<=N)/\l<=c
 | .func f fs cs,v=>∃ F K,v=.func (.func f) F K/\VRels σ fs F.toList/\VRels σ cs K.toList
 | .yield l,v=>∃ b N,σ l=some (b,N)/\v=.func (.yield b) #[] #[]
 | .nilfunc,v=>v=.nilFunc
 | .iface t a,v=>∃ x,v=.iface t x/\VRel σ a x
 | .niliface,v=>v=.nilIface
 | .map i,v=>∃ b N,σ i=some (b,N)/\v=.map (some b)
 | .nilmap,v=>v=.map none
 | .vslice i l,v=>∃ b N c,σ i=some (b,N)/\v=.slice (some ⟨b,N,none⟩) l c
 | .pslice i l _ n,v=>∃ p len c,v=.slice p len c/\((len:Int)=n/\len<=c)/\l<=len/\(l=0\/∃ b N,σ i=some (b,N)/\p=some ⟨b,N,none⟩)
 | .lslice i n,v=>∃ p len c,v=.slice p len c/\((len:Int)=n/\len<=c)/\(len=0\/∃ b N,σ i=some (b,N)/\p=some ⟨b,N,none⟩)
 | .islice w i o n,v=>∃ p len c,v=.slice p len c/\((len:Int)=n/\len<=c)/\(len=0\/∃ b N,σ i=some (b,N)/\ISl w o c b N p)
 | .panic a,v=>VRel σ a v
 | .vptr i o,v=>∃ b N,σ i=some (b,N)/\v=.pointer (some ⟨b,N+o,none⟩)
 | .agg l,v=>∃ K,v=.agg K/\VRels σ l K.toList
 | .tuple l,v=>∃ K,v=.tuple K/\VRels σ l K.toList
def VRels (σ:Sg):List AV->List Value->Prop
 | [],l=>l=[]
 | a :: as,l=>∃ v vs,l=v :: vs/\VRel σ a v/\VRels σ as vs
end
mutual
theorem VRel.mono {σ τ:Sg} (h:Sub σ τ):∀ (a:AV) (v:Value),VRel σ a v->VRel τ a v
 | .any false,_,_=>trivial
 | .any true,_,e=>e
 | .bool _ _,_,e=>e
 | .int _ _ _,_,e=>e
 | .str _ _,_,e=>e
 | .nil,_,e=>e
 | .ptr _ _,_,⟨b,N,e,r⟩=>⟨b,N,h _ _ e,r⟩
 | .nilslice,_,e=>e
 | .eslice _,_,e=>e
 | .slice _ _ _ _,_,⟨b,N,e,r⟩=>⟨b,N,h _ _ e,r⟩
 | .gslice _ _ _ _,_,⟨b,N,q,c,e,r⟩=>⟨b,N,q,c,h _ _ e,r⟩
 | .func _ fs cs,_,⟨F,K,e,r,s⟩=>⟨F,K,e,VRels.mono h fs _ r,VRels.mono h cs _ s⟩
 | .yield _,_,⟨b,N,e,r⟩=>⟨b,N,h _ _ e,r⟩
 | .nilfunc,_,e=>e
 | .iface _ a,_,⟨x,e,r⟩=>⟨x,e,VRel.mono h a _ r⟩
 | .niliface,_,e=>e
 | .map _,_,⟨b,N,e,r⟩=>⟨b,N,h _ _ e,r⟩
 | .nilmap,_,e=>e
 | .vslice _ _,_,⟨b,N,c,e,r⟩=>⟨b,N,c,h _ _ e,r⟩
 | .pslice _ _ _ _,_,⟨p,len,c,e1,e2,e3,r⟩=>⟨p,len,c,e1,e2,e3,r.imp id fun ⟨b,N,h1,h2⟩=>⟨b,N,h _ _ h1,h2⟩⟩
 | .lslice _ _,_,⟨p,len,c,e1,e2,r⟩=>⟨p,len,c,e1,e2,r.imp id fun ⟨b,N,h1,h2⟩=>⟨b,N,h _ _ h1,h2⟩⟩
 | .islice _ _ _ _,_,⟨p,len,c,e1,e2,r⟩=>⟨p,len,c,e1,e2,r.imp id fun ⟨b,N,h1,h2⟩=>⟨b,N,h _ _ h1,h2⟩⟩
 | .panic a,v,e=>VRel.mono h a v e
 | .vptr _ _,_,⟨b,N,e,r⟩=>⟨b,N,h _ _ e,r⟩
 | .agg l,_,⟨K,e,r⟩=>⟨K,e,VRels.mono h l _ r⟩
 | .tuple l,_,⟨K,e,r⟩=>⟨K,e,VRels.mono h l _ r⟩
theorem VRels.mono {σ τ:Sg} (h:Sub σ τ):∀ (l:List AV) (L:List Value),VRels σ l L->VRels τ l L
 | [],_,e=>e
 | a :: l,_,⟨v,vs,e,r,s⟩=>⟨v,vs,e,VRel.mono h a _ r,VRels.mono h l _ s⟩
end
theorem VRels.length {σ:Sg}:∀ {l:List AV} {L:List Value},VRels σ l L->L.length=l.length
 | [],_,e=>by rw [show _=[] from e]; rfl
 | a :: l,_,⟨v,vs,e,_,s⟩=>by rw [e]; simp [VRels.length s]
theorem VRels.append {σ:Sg}:∀ {l m:List AV} {L M:List Value},VRels σ l L->VRels σ m M->VRels σ (l++m) (L++M)
 | [],m,_,M,e,h=>by rw [show _=[] from e]; exact h
 | a :: l,m,_,M,⟨v,vs,e,r,s⟩,h=>by rw [e]; exact ⟨v,vs++M,rfl,r,VRels.append s h⟩
theorem VRels.nth {σ:Sg}:∀ {l:List AV} {L:List Value} {n:Nat} {a:AV},VRels σ l L->nth l n=some a->∃ v,L[n]?=some v/\VRel σ a v
 | [],_,n,a,_,h=>by cases n <;> cases h
 | x :: l,_,0,a,⟨v,vs,e,r,s⟩,h=>by cases h; exact ⟨v,by rw [e]; rfl,r⟩
 | x :: l,_,n+1,a,⟨v,vs,e,r,s⟩,h=>by
  obtain ⟨u,h1,h2⟩:=VRels.nth (n:=n) s h
  exact ⟨u,by rw [e]; simpa using h1,h2⟩
theorem VRels.drop {σ:Sg}:∀ (n:Nat) {l:List AV} {L:List Value},VRels σ l L->VRels σ (aP n l) (L.drop n)
 | 0,l,L,h=>h
 | n+1,[],_,h=>by rw [show _=[] from h]; exact rfl
 | n+1,a :: l,_,⟨v,vs,e,r,s⟩=>by rw [e]; exact VRels.drop n s
theorem VRels.take {σ:Sg}:∀ (n:Nat) {l m:List AV} {L:List Value},VRels σ l L->bP n l=some m->VRels σ m (L.take n)/\m.length=n
 | 0,l,m,L,_,h=>by cases h; exact ⟨rfl,rfl⟩
 | n+1,[],m,L,_,h=>by cases h
 | n+1,a :: l,m,_,⟨v,vs,e,r,s⟩,h=>by
  simp only [bP] at h
  cases h1:bP n l with
  | none=>rw [h1] at h; cases h
  | some q=>
   rw [h1] at h; cases h
   obtain ⟨h2,h3⟩:=VRels.take n s h1
   exact ⟨by rw [e]; exact ⟨v,vs.take n,rfl,r,h2⟩,by simp [h3]⟩
theorem jJ {α β:Type} (l:List α) (n:Nat) (v:α) (k:List α->β):wI l n v k=k (l.set n v):=by
 induction l generalizing n k with
 | nil=>rfl
 | cons a l ih=>cases n with
  | zero=>rfl
  | succ n=>exact ih n fun l'=>k (a :: l')
theorem Cg {α β:Type} (l m:List α) (k:List α->β):Ka l m k=k (l++m):=by
 induction l generalizing k with
 | nil=>rfl
 | cons a l ih=>simp [Ka,ih]
@[simp] theorem aF {β:Type} (n:Nat) (k:Nat->β):aC n k=k n:=by cases n <;> rfl
@[simp] theorem D6 {β:Type} (n:Int) (k:Int->β):rM n k=k n:=by cases n <;> simp [rM]
@[simp] theorem mkInt_rel {σ:Sg} (s:Bool) (k:IntKind) (n:Int) (v:Value):VRel σ (bB s k n) v ↔ v=.int k n:=by cases s <;> simp [bB,VRel]
@[simp] theorem xL {σ:Sg} (s:Bool) (b:Bool) (v:Value):VRel σ (iH s b) v ↔ v=.bool b:=by cases s <;> cases b <;> simp [iH,VRel]
theorem VRels.set {σ:Sg}:∀ {l:List AV} {L:List Value} (n:Nat) {a:AV} {v:Value},VRels σ l L->VRel σ a v->VRels σ (l.set n a) (L.set n v)
 | [],_,_,_,_,e,_=>by rw [show _=[] from e]; exact rfl
 | x :: l,_,0,a,v,⟨u,us,e,r,s⟩,h=>by rw [e]; exact ⟨v,us,rfl,h,s⟩
 | x :: l,_,n+1,a,v,⟨u,us,e,r,s⟩,h=>by rw [e]; exact ⟨u,_,rfl,r,VRels.set n s h⟩
theorem bV {α:Type}:∀ (l:List α) (n:Nat),nth l n=l[n]?
 | [],n=>by cases n <;> rfl
 | a :: l,0=>rfl
 | a :: l,n+1=>(bV l n).trans (by simp)
theorem gZ {α:Type}:∀ (n:Nat) (l:List α),aP n l=l.drop n
 | 0,l=>rfl
 | n+1,[]=>rfl
 | n+1,a :: l=>by simpa [aP] using gZ n l
theorem Hp.get_eq (h:Hp) (i:Nat):h.get i=if i<h.size then h.blks[h.size - 1 - i]? else none:=by
 unfold Hp.get
 by_cases hlt:i<h.size
 .have:Nat.ble h.size i=false:=by
   rw [Bool.eq_false_iff]; intro e; have:=Nat.le_of_ble_eq_true e; omega
  rw [this]; simp [hlt,bV]
 .have:Nat.ble h.size i=true:=Nat.ble_eq_true_of_le (by omega)
  rw [this]; simp [hlt]
def Hp.ok (h:Hp):Prop:=h.blks.length=h.size
def Hp.put (h:Hp) (i:Nat) (b:ABody):Hp:=⟨h.blks.set (h.size - 1 - i) ⟨h.clock,b⟩,h.size,h.clock⟩
theorem Hp.set_eq {β:Type} (h:Hp) (i:Nat) (b:ABody) (k:Hp->β):h.set i b k=k (h.put i b):=by
 simp [Hp.set,Hp.put,jJ]
theorem Hp.get_lt {h:Hp} {i:Nat} {b:ABlk} (e:h.get i=some b):i<h.size:=by
 rw [Hp.get_eq] at e
 by_cases hlt:i<h.size
 .exact hlt
 .simp [hlt] at e
theorem Hp.get_put {h:Hp} (ho:h.ok) (i j:Nat) (hi:i<h.size) (b:ABody):(h.put i b).get j=if j=i then some ⟨h.clock,b⟩ else h.get j:=by
 rw [Hp.get_eq,Hp.get_eq]
 simp only [Hp.put]
 by_cases hj:j<h.size
 .simp only [hj,if_true]
  by_cases e:j=i
  .subst e
   simp only [if_true]
   rw [List.getElem?_set_self (by rw [ho]; omega)]
  .simp only [e,if_false]
   rw [List.getElem?_set_ne (by omega)]
 .have:j≠i:=by omega
  simp [hj,this]
theorem Hp.ok_put {h:Hp} (ho:h.ok) (i:Nat) (b:ABody):(h.put i b).ok:=by simp [Hp.ok,Hp.put]; exact ho
theorem Hp.get_push {h:Hp} (b:ABody) (j:Nat):(h.push b).get j=if j=h.size then some ⟨h.clock,b⟩ else h.get j:=by
 rw [Hp.get_eq,Hp.get_eq]
 simp only [Hp.push]
 by_cases e:j=h.size
 .subst e; simp
 .by_cases hj:j<h.size
  .have:j<h.size+1:=by omega
   simp only [this,if_true,e,if_false,hj]
   rw [show h.size+1 - 1 - j=(h.size - 1 - j)+1 by omega]
   simp
  .have:¬ j<h.size+1:=by omega
   simp [this,e,hj]
theorem Hp.ok_push {h:Hp} (ho:h.ok) (b:ABody):(h.push b).ok:=by simp [Hp.ok,Hp.push]; exact ho
def TRel (σ:Sg) (ts:List AT) (T:Array Value):Prop:=VRels σ (ts.map (·.v)) T.toList
def BRel (σ:Sg) (N:Nat):ABody->Obj->Prop
 | .dead,_=>True
 | .cells l,o=>∃ K e,o=.cells K e (0,0)/\VRels σ l K.toList/\N=K.size
 | .view l,o=>∃ K e fr,o=.cells K e fr/\VRels σ l ((K.toList.drop N).take l.length)
 | .hold l,o=>∃ K e fr,o=.cells K e fr/\VRels σ l K.toList
 | .rows k xs,o=>∃ K e fr,o=.cells K e fr/\(K.toList.drop N).take xs.length=xs.map (Value.int k)
 | .grown l,o=>∃ K e A B,o=.cells K e (0,0)/\K.toList=A++B/\VRels σ l A/\N=K.size
 | .ints k xs,o=>∃ K e B,o=.cells K e (0,0)/\K.toList=xs.map (Value.int k)++B/\N=K.size
 | .map es,o=>∃ (E:Array MapEntry) (c:Nat) (es':List (AV×AV)),o=.map E c/\es'.Perm es/\(es.map (·.1)).Nodup/\VRels σ (es'.map (·.1)) (E.toList.map (·.key))/\VRels σ (es'.map (·.2)) (E.toList.map (·.val))
 | .loop r,o=>∃ L,o=.loop L/\L.state=r.state/\L.pending=r.pending/\L.fn=r.fn/\TRel σ r.tmps L.tmps/\L.params.toList=r.params/\L.assign=r.assign/\L.body=r.body/\∃ M,σ r.defers=some (L.defers,M)
 | .defers t,o=>o=.deferred (if t then none else some [])
theorem TRel.mono {σ τ:Sg} (h:Sub σ τ) {ts:List AT} {T:Array Value} (r:TRel σ ts T):TRel τ ts T:=VRels.mono h _ _ r
theorem BRel.mono {σ τ:Sg} (h:Sub σ τ) {N:Nat}:∀ {b:ABody} {o:Obj},BRel σ N b o->BRel τ N b o
 | .dead,_,_=>trivial
 | .cells _,_,⟨K,e,h1,h2,h3⟩=>⟨K,e,h1,VRels.mono h _ _ h2,h3⟩
 | .view _,_,⟨K,e,fr,h1,h2⟩=>⟨K,e,fr,h1,VRels.mono h _ _ h2⟩
 | .hold _,_,⟨K,e,fr,h1,h2⟩=>⟨K,e,fr,h1,VRels.mono h _ _ h2⟩
 | .grown _,_,⟨K,e,A,B,h1,h2,h3,h4⟩=>⟨K,e,A,B,h1,h2,VRels.mono h _ _ h3,h4⟩
 | .ints _ _,_,e=>e
 | .rows _ _,_,e=>e
 | .map _,_,⟨E,c,es',h1,hp,hn,h2,h3⟩=>⟨E,c,es',h1,hp,hn,VRels.mono h _ _ h2,VRels.mono h _ _ h3⟩
 | .loop _,_,⟨L,h1,h2,h3,h4,h5,h6,h7,h8,M,h9⟩=>⟨L,h1,h2,h3,h4,TRel.mono h h5,h6,h7,h8,M,h _ _ h9⟩
 | .defers _,_,e=>e
def ABody.isDead:ABody->Bool
 | .dead=>true
 | .rows _ xs=>xs.isEmpty
 | .ints _ xs=>xs.isEmpty
 | _=>false
theorem gJ {k:IntKind} {xs:List Int} (h:0<xs.length):(ABody.ints k xs).isDead=false:=by
 cases xs with
 | nil=>cases h
 | cons x l=>rfl
def ABody.isView:ABody->Bool
 | .view _=>true
 | .hold _=>true
 | .rows _ _=>true
 | _=>false
structure HRel (σ:Sg) (h:Hp) (W:World):Prop where
 ok:h.ok
 blk:∀ i b,h.get i=some b->b.body.isDead=false->∃ B N o,σ i=some (B,N)/\W.heap[B]?=some o/\BRel σ N b.body o
 dom:∀ i B N,σ i=some (B,N)->i<h.size/\B<W.heap.size
 inj:∀ i j b c B N M,h.get i=some b->h.get j=some c->b.body.isDead=false->c.body.isDead=false->σ i=some (B,N)->σ j=some (B,M)->i=j\/(b.body.isView=true/\c.body.isView=true)
structure Ext (W V:World):Prop where
 os:V.os=W.os
 tape:V.tape=W.tape
 output:V.output=W.output
 size:W.heap.size<=V.heap.size
 fz:∀ a,V.frozen? a=W.frozen? a
theorem Ext.refl (W:World):Ext W W:=⟨rfl,rfl,rfl,Nat.le_refl _,fun _=>rfl⟩
theorem Ext.trans {A B C:World} (h:Ext A B) (k:Ext B C):Ext A C:=⟨k.os.trans h.os,k.tape.trans h.tape,k.output.trans h.output,Nat.le_trans h.size k.size,fun a=>(k.fz a).trans (h.fz a)⟩
def vO (o:Obj):Prop:=∀ K e fr,o=.cells K e fr->fr=(0,0)
theorem D7 {σ:Sg} {N:Nat} {b:ABody} {o:Obj} (h:BRel σ N b o) (hd:b.isDead=false) (hv:b.isView=false):vO o:=by
 intro K e fr ho
 cases b with
 | dead=>cases hd
 | cells l=>obtain ⟨K',e',h1,_⟩:=h; rw [h1] at ho; cases ho; rfl
 | view l=>cases hv
 | hold l=>cases hv
 | rows k xs=>cases hv
 | grown l=>obtain ⟨K',e',_,_,h1,_⟩:=h; rw [h1] at ho; cases ho; rfl
 | ints k xs=>obtain ⟨K',e',_,h1,_⟩:=h; rw [h1] at ho; cases ho; rfl
 | map es=>obtain ⟨E,c,es',h1,_⟩:=h; rw [h1] at ho; cases ho
 | loop r=>obtain ⟨L,h1,_⟩:=h; rw [h1] at ho; cases ho
 | defers t=>rw [show o=_ from h] at ho; cases ho
theorem jl {W:World} {a:Addr} {o:Obj} (h:W.heap[a.block]?=some o) (c:vO o):W.frozen? a=false:=by
 unfold World.frozen?
 rw [h]
 cases o with
 | cells K e fr=>
  have:=c K e fr rfl
  subst this
  simp
 | _=>rfl
theorem D8 {W:World} {a:Addr} (h:W.heap[a.block]?=none):W.frozen? a=false:=by
 unfold World.frozen?
 rw [h]
theorem kr (w:World) (o:Obj) (i:Nat):(w.alloc o).heap[i]?=if i=w.heap.size then some o else w.heap[i]?:=by
 show (w.heap.push o)[i]?=_
 rw [Array.getElem?_push]
theorem r9 {W:World} {o:Obj} (c:vO o) (a:Addr):(W.alloc o).frozen? a=W.frozen? a:=by
 by_cases h:a.block=W.heap.size
 .rw [jl (o:=o) (by rw [kr,if_pos h]) c,D8 (by rw [h]; simp)]
 .unfold World.frozen?
  rw [kr,if_neg h]
structure Mon (h k:Hp):Prop where
 clock:h.clock<=k.clock
 size:h.size<=k.size
 same:∀ i b c,h.get i=some b->k.get i=some c->c=b\/h.clock<=c.wr
 loop:∀ i w c,h.get i=some ⟨w,.loop c⟩->∃ w' st pd,k.get i=some ⟨w',.loop { c with state:=st,pending:=pd }⟩
structure GoodH (H:Nat->Prop) (σ:Sg) (h:Hp) (W:World) (τ:Sg) (k:Hp) (V:World):Prop where
 sub:Sub σ τ
 only:∀ i x,τ i=some x->i<h.size->σ i=some x
 ext:Ext W V
 mon:Mon h k
 old:∀ i B N,τ i=some (B,N)->h.size<=i->B<W.heap.size->H B\/∃ j M c,j<h.size/\σ j=some (B,M)/\k.get j=some c/\h.clock<=c.wr
 keep:∀ B,B<W.heap.size->¬ H B->(∀ i N c,σ i=some (B,N)->k.get i=some c->c.wr<h.clock)->V.heap[B]?=W.heap[B]?
abbrev Good:=GoodH fun _=>False
theorem Hp.get_some {h:Hp} (ho:h.ok) {i:Nat} (hi:i<h.size):∃ b,h.get i=some b:=by
 rw [Hp.get_eq]; simp only [hi,if_true]
 exact ⟨_,List.getElem?_eq_getElem (by rw [ho]; omega)⟩
theorem Mon.refl (h:Hp):Mon h h:=⟨Nat.le_refl _,Nat.le_refl _,fun i b c e f=>.inl (by rw [e] at f; cases f; rfl),fun i w c e=>⟨w,c.state,c.pending,e⟩⟩
theorem Mon.trans {h k m:Hp} (ko:k.ok) (x:Mon h k) (y:Mon k m):Mon h m:=by
 refine ⟨Nat.le_trans x.clock y.clock,Nat.le_trans x.size y.size,fun i b c e f=>?_,fun i w c e=>?_⟩
 .obtain ⟨d,hd⟩:=Hp.get_some ko (i:=i) (Nat.lt_of_lt_of_le (Hp.get_lt e) x.size)
  rcases y.same i d c hd f with rfl|h2
  .exact x.same i b c e hd
  .exact .inr (Nat.le_trans x.clock h2)
 .obtain ⟨w1,s1,p1,h1⟩:=x.loop i w c e
  obtain ⟨w2,s2,p2,h2⟩:=y.loop i w1 _ h1
  exact ⟨w2,s2,p2,h2⟩
theorem Good.refl (σ:Sg) (h:Hp) (W:World) (dom:∀ i B N,σ i=some (B,N)->i<h.size):Good σ h W σ h W:=
 ⟨Sub.refl _,fun _ _ e _=>e,Ext.refl _,Mon.refl _,fun i B N e hi _=>absurd (dom i B N e) (Nat.not_lt.2 hi),fun _ _ _ _=>rfl⟩
theorem GoodH.next {H H':Nat->Prop} {σ τ υ:Sg} {h k m:Hp} {W V X:World} (ko:k.ok) (mo:m.ok) (x:GoodH H σ h W τ k V) (y:GoodH H' τ k V υ m X) (hh:∀ B,H' B->B<W.heap.size->H B):GoodH H σ h W υ m X:=by
 have later:∀ j b c,k.get j=some b->h.clock<=b.wr->m.get j=some c->h.clock<=c.wr:=by
  intro j b c hb hw hc
  rcases y.mon.same j b c hb hc with rfl|h2
  .exact hw
  .exact Nat.le_trans x.mon.clock h2
 have old:∀ i B N,τ i=some (B,N)->h.size<=i->B<W.heap.size->H B\/∃ j M c,j<h.size/\σ j=some (B,M)/\m.get j=some c/\h.clock<=c.wr:=by
  intro i B N e hi hB
  rcases x.old i B N e hi hB with h0|⟨j,M,b,h1,h2,h3,h4⟩
  .exact .inl h0
  .obtain ⟨c,hc⟩:=Hp.get_some mo (i:=j) (Nat.lt_of_lt_of_le (Nat.lt_of_lt_of_le h1 x.mon.size) y.mon.size)
   exact .inr ⟨j,M,c,h1,h2,hc,later j b c h3 h4 hc⟩
 refine ⟨x.sub.trans y.sub,fun i z e hi=>x.only i z (y.only i z e (Nat.lt_of_lt_of_le hi x.mon.size)) hi,x.ext.trans y.ext,x.mon.trans ko y.mon,?_,?_⟩
 .intro i B N e hi hB
  by_cases hk:i<k.size
  .exact old i B N (y.only i _ e hk) hi hB
  .rcases y.old i B N e (Nat.not_lt.1 hk) (Nat.lt_of_lt_of_le hB x.ext.size) with h0|⟨j,M,c,h1,h2,h3,h4⟩
   .exact .inl (hh B h0 hB)
   .by_cases hj:j<h.size
    .exact .inr ⟨j,M,c,hj,x.only j _ h2 hj,h3,Nat.le_trans x.mon.clock h4⟩
    .exact old j B M h2 (Nat.not_lt.1 hj) hB
 .intro B hB hH hw
  rw [y.keep B (Nat.lt_of_lt_of_le hB x.ext.size) (fun h0=>hH (hh B h0 hB)) ?_]
  .refine x.keep B hB hH fun i N b hi hg=>?_
   obtain ⟨c,hc⟩:=Hp.get_some mo (i:=i) (Nat.lt_of_lt_of_le (Hp.get_lt hg) y.mon.size)
   have h1:=hw i N c hi hc
   rcases y.mon.same i b c hg hc with rfl|h2
   .exact h1
   .exact absurd (Nat.le_trans x.mon.clock h2) (Nat.not_le.2 h1)
  .intro i N c hi hg
   by_cases hk:i<h.size
   .exact Nat.lt_of_lt_of_le (hw i N c (x.only i _ hi hk) hg) x.mon.clock
   .rcases old i B N hi (Nat.not_lt.1 hk) hB with h0|⟨j,M,c',h1,h2,h3,h4⟩
    .exact absurd h0 hH
    .exact absurd (hw j M c' h2 h3) (Nat.not_lt.2 h4)
theorem Good.trans {σ τ υ:Sg} {h k m:Hp} {W V X:World} (ko:k.ok) (mo:m.ok) (x:Good σ h W τ k V) (y:Good τ k V υ m X):Good σ h W υ m X:=GoodH.next ko mo x y fun _ h _=>h
theorem GoodH.trans {σ τ υ:Sg} {h k m:Hp} {W V X:World} (ko:k.ok) (mo:m.ok) (x:Good σ h W τ k V) (y:Good τ k V υ m X):Good σ h W υ m X:=GoodH.next ko mo x y fun _ h _=>h
theorem Good.hide {H:Nat->Prop} {σ τ:Sg} {h k:Hp} {W V:World} (x:Good σ h W τ k V):GoodH H σ h W τ k V:=
 ⟨x.sub,x.only,x.ext,x.mon,fun i B N e hi hB=>.inr ((x.old i B N e hi hB).resolve_left id),fun B hB _ hw=>x.keep B hB id hw⟩
def Sg.add (σ:Sg) (i:Nat) (x:Nat×Nat):Sg:=fun j=>if j=i then some x else σ j
theorem Sub.add {σ:Sg} {i:Nat} {x:Nat×Nat} (h:σ i=none):Sub σ (σ.add i x):=fun j y e=>by
 unfold Sg.add
 by_cases hj:j=i
 .subst hj; rw [h] at e; cases e
 .simp [hj,e]
theorem HRel.fresh {σ:Sg} {h:Hp} {W:World} (r:HRel σ h W):σ h.size=none:=by
 cases e:σ h.size with
 | none=>rfl
 | some x=>exact absurd (r.dom _ _ _ e).1 (Nat.lt_irrefl _)
theorem HRel.alloc {σ:Sg} {h:Hp} {W:World} (r:HRel σ h W) (b:ABody) (o:Obj) (N:Nat) (hb:BRel (σ.add h.size (W.heap.size,N)) N b o) (hc:vO o:=by intro _ _ _ h; first|(cases h; rfl)|cases h):
  HRel (σ.add h.size (W.heap.size,N)) (h.push b) (W.alloc o)/\Good σ h W (σ.add h.size (W.heap.size,N)) (h.push b) (W.alloc o):=by
 have hs:=Sub.add (x:=(W.heap.size,N)) r.fresh
 refine ⟨⟨Hp.ok_push r.ok b,?_,?_,?_⟩,⟨hs,?_,⟨rfl,rfl,rfl,by simp,r9 hc⟩,⟨Nat.le_refl _,by simp [Hp.push],?_,?_⟩,?_,?_⟩⟩
 .intro i c e hd
  rw [Hp.get_push] at e
  by_cases hi:i=h.size
  .subst hi
   simp only [if_true,Option.some.injEq] at e
   subst e
   exact ⟨W.heap.size,N,o,by simp [Sg.add],by rw [kr]; simp,hb⟩
  .simp only [hi,if_false] at e
   obtain ⟨B,M,p,h1,h2,h3⟩:=r.blk i c e hd
   refine ⟨B,M,p,hs _ _ h1,?_,BRel.mono hs h3⟩
   rw [kr]
   have:=(r.dom _ _ _ h1).2
   rw [if_neg (by omega)]; exact h2
 .intro i B M e
  unfold Sg.add at e
  by_cases hi:i=h.size
  .subst hi
   simp only [if_true,Option.some.injEq,Prod.mk.injEq] at e
   obtain ⟨rfl,rfl⟩:=e
   exact ⟨by simp [Hp.push],by simp⟩
  .simp only [hi,if_false] at e
   have:=r.dom _ _ _ e
   exact ⟨by simp [Hp.push]; omega,by simp; omega⟩
 .intro i j c d B M K e f hc hd h1 h2
  rw [Hp.get_push] at e f
  unfold Sg.add at h1 h2
  by_cases hi:i=h.size <;> by_cases hj:j=h.size
  .omega
  .simp only [hi,hj,if_true,if_false,Option.some.injEq,Prod.mk.injEq] at h1 h2
   have:=(r.dom _ _ _ h2).2; omega
  .simp only [hi,hj,if_true,if_false,Option.some.injEq,Prod.mk.injEq] at h1 h2
   have:=(r.dom _ _ _ h1).2; omega
  .simp only [hi,hj,if_false] at e f h1 h2
   exact r.inj i j c d B M K e f hc hd h1 h2
 .intro i x e hi
  unfold Sg.add at e
  rw [if_neg (by omega)] at e
  exact e
 .intro i c d e f
  rw [Hp.get_push] at f
  have:=Hp.get_lt e
  rw [if_neg (by omega),e] at f
  cases f; exact .inl rfl
 .intro i w c e
  have:=Hp.get_lt e
  exact ⟨w,c.state,c.pending,by rw [Hp.get_push,if_neg (by omega)]; exact e⟩
 .intro i B M e hi hB
  unfold Sg.add at e
  by_cases h1:i=h.size
  .simp only [h1,if_true,Option.some.injEq,Prod.mk.injEq] at e
   omega
  .simp only [h1,if_false] at e
   have:=(r.dom _ _ _ e).1; omega
 .intro B hB _ _
  rw [kr,if_neg (by omega)]
def xM (a b:ABody):Prop:=∀ c,a=.loop c->∃ st pd,b=.loop { c with state:=st,pending:=pd }
theorem jm {a b:ABody} (h:∀ c,a≠.loop c):xM a b:=fun c e=>absurd e (h c)
theorem Mon.put {h:Hp} (ho:h.ok) {i:Nat} {b:ABlk} (hg:h.get i=some b) (d:ABody) (hk:xM b.body d):Mon h (h.put i d):=by
 have hi:=Hp.get_lt hg
 refine ⟨Nat.le_refl _,Nat.le_refl _,?_,?_⟩
 .intro j c e q1 q2
  rw [Hp.get_put ho i j hi] at q2
  by_cases hj:j=i
  .simp only [hj,if_true,Option.some.injEq] at q2
   subst q2; exact .inr (Nat.le_refl _)
  .simp only [hj,if_false,q1,Option.some.injEq] at q2
   subst q2; exact .inl rfl
 .intro j w c e
  rw [Hp.get_put ho i j hi]
  by_cases hj:j=i
  .subst hj
   rw [hg] at e; cases e
   obtain ⟨st,pd,rfl⟩:=hk c rfl
   exact ⟨h.clock,st,pd,by simp⟩
  .simp only [hj,if_false]
   exact ⟨w,c.state,c.pending,e⟩
theorem HRel.write {σ:Sg} {h:Hp} {W V:World} (r:HRel σ h W) {i B N:Nat} {b:ABlk} (hg:h.get i=some b) (hl:b.body.isDead=false) (hσ:σ i=some (B,N)) (d:ABody) (hk:xM b.body d) (o:Obj)
  (ho:V.heap[B]?=some o) (hb:BRel σ N d o) (hsz:V.heap.size=W.heap.size) (hold:∀ k,k≠B->V.heap[k]?=W.heap[k]?) (h1:V.os=W.os) (h2:V.tape=W.tape) (h3:V.output=W.output) (hc:vO o:=by intro _ _ _ h; first|(cases h; rfl)|cases h) (hnv:b.body.isView=false:=by rfl):
  HRel σ (h.put i d) V/\Good σ h W σ (h.put i d) V:=by
 have hi:=Hp.get_lt hg
 have hfz:∀ a,V.frozen? a=W.frozen? a:=fun a=>by
  by_cases h:a.block=B
  .obtain ⟨B',N',o',q1,q2,q3⟩:=r.blk i b hg hl
   rw [hσ] at q1; cases q1
   rw [jl (by rw [h]; exact ho) hc,jl (by rw [h]; exact q2) (D7 q3 hl hnv)]
  .unfold World.frozen?
   rw [hold _ h]
 refine ⟨⟨Hp.ok_put r.ok i d,?_,?_,?_⟩,⟨Sub.refl _,fun _ _ e _=>e,⟨h1,h2,h3,by omega,hfz⟩,Mon.put r.ok hg d hk,fun j B M e hj _=>absurd (r.dom j B M e).1 (Nat.not_lt.2 hj),?_⟩⟩
 .intro j c e hd
  rw [Hp.get_put r.ok i j hi] at e
  by_cases hj:j=i
  .subst hj
   simp only [if_true,Option.some.injEq] at e
   subst e
   exact ⟨B,N,o,hσ,ho,hb⟩
  .simp only [hj,if_false] at e
   obtain ⟨B',M,p,q1,q2,q3⟩:=r.blk j c e hd
   refine ⟨B',M,p,q1,?_,q3⟩
   rw [hold]; exact q2
   intro eB; subst eB
   exact hj ((r.inj j i c b B' M N e hg hd hl q1 hσ).resolve_right fun h=>by rw [hnv] at h; cases h.2)
 .intro j B' M e
  have:=r.dom _ _ _ e
  exact ⟨this.1,by omega⟩
 .intro j k c e B' M K q1 q2 q3 q4 q5 q6
  rw [Hp.get_put r.ok i j hi] at q1
  rw [Hp.get_put r.ok i k hi] at q2
  by_cases hj:j=i <;> by_cases hk:k=i
  .omega
  .subst hj
   simp only [hk,if_false] at q2
   exact .inl ((r.inj j k b e B' M K hg q2 hl q4 q5 q6).resolve_right fun h=>by rw [hnv] at h; cases h.1)
  .subst hk
   simp only [hj,if_false] at q1
   exact .inl ((r.inj j k c b B' M K q1 hg q3 hl q5 q6).resolve_right fun h=>by rw [hnv] at h; cases h.2)
  .simp only [hj,hk,if_false] at q1 q2
   exact r.inj j k c e B' M K q1 q2 q3 q4 q5 q6
 .intro B' hB _ hw
  apply hold
  intro e; subst e
  have:=hw i N ⟨h.clock,d⟩ hσ (by rw [Hp.get_put r.ok i i hi]; simp)
  exact absurd this (Nat.lt_irrefl _)
end Go.Eng
namespace Go.Eng
def ev (T:Array Value):Operand->Value
 | .tmp t=>T.getD t undef
 | .const v=>v
 | .global g=>.pointer (some ⟨g,0,none⟩)
 | .func f=>.func (.func f) #[] #[]
def GRel (C:Ctx) (σ:Sg):Prop:=∀ g i,C.glob g=some i->∃ N,σ i=some (g,N)
theorem GRel.mono {C:Ctx} {σ τ:Sg} (h:GRel C σ) (s:Sub σ τ):GRel C τ:=fun g i e=>let ⟨N,hN⟩:=h g i e; ⟨N,s _ _ hN⟩
theorem qN {σ:Sg} {v:Value} {a:AV} (h:mf v=some a):VRel σ a v/\a.isCell=true:=by
 unfold mf at h
 split at h <;> first|(cases h; exact ⟨rfl,rfl⟩)|cases h
theorem nZ {σ:Sg}:∀ {l:List Value} {m:List AV},Kb mf l=some m->VRels σ m l/\bD m=true
 | [],m,h=>by cases h; exact ⟨rfl,rfl⟩
 | v :: l,m,h=>by
  simp only [Kb] at h
  split at h
  .cases h
  .rename_i b hb
   split at h
   .cases h
   .rename_i bs hbs
    cases h
    obtain ⟨h1,h2⟩:=nZ (σ:=σ) hbs
    obtain ⟨h3,h4⟩:=qN (σ:=σ) hb
    exact ⟨⟨v,l,rfl,h3,h1⟩,by simp [bD,h2,h4]⟩
theorem TRel.nth {σ:Sg} {ts:List AT} {T:Array Value} (h:TRel σ ts T) {t:Nat} {a:AT} (e:Eng.nth ts t=some a):∃ v,T[t]?=some v/\VRel σ a.v v:=by
 have h1:Eng.nth (ts.map (·.v)) t=some a.v:=by rw [bV] at e ⊢; simp [e]
 obtain ⟨v,h2,h3⟩:=VRels.nth h h1
 exact ⟨v,by simpa using h2,h3⟩
theorem TRel.none {σ:Sg} {ts:List AT} {T:Array Value} (h:TRel σ ts T) {t:Nat} (e:Eng.nth ts t=none):T[t]?=none:=by
 have:=VRels.length h
 rw [bV] at e
 simp at this e ⊢
 omega
theorem cB {C:Ctx} {σ:Sg} {s:St} {T:Array Value} (g:GRel C σ) (h:TRel σ s.tmps T) (x:Operand):VRel σ (ai C s x) (ev T x):=by
 cases x with
 | tmp t=>
  simp only [ai,ev]
  cases e:nth s.tmps t with
  | none=>
   have:=h.none e
   simp only [Array.getD_eq_getD_getElem?,this,Option.getD_none]
   exact ⟨#[],rfl,rfl⟩
  | some a=>
   obtain ⟨v,h1,h2⟩:=h.nth e
   simpa [Array.getD_eq_getD_getElem?,h1] using h2
 | const v=>
  simp only [ai,ev]
  cases e:mf v with
  | none=>trivial
  | some a=>exact (qN e).1
 | global n=>
  simp only [ai,ev]
  cases e:C.glob n with
  | none=>trivial
  | some i=>obtain ⟨N,hN⟩:=g n i e; exact ⟨n,N,hN,rfl⟩
 | func f=>exact ⟨#[],#[],rfl,rfl,rfl⟩
theorem z8 {C:Ctx} {σ:Sg} {s:St} {T:Array Value} (g:GRel C σ) (h:TRel σ s.tmps T):∀ l:List Operand,VRels σ (dI C s l) (l.map (ev T))
 | []=>rfl
 | x :: l=>⟨_,_,rfl,cB g h x,z8 g h l⟩
def OpOk (P:Program) (m:Sem Next) (σ:Sg) (h:Hp) (W:World) (q:S1):Prop:=
 q.need->∃ τ V X r,m.run P W=.ok r X/\(r=.value V\/(r=.skip/\V=undef))/\VRel τ q.v V/\HRel τ q.h X/\Good σ h W τ q.h X
theorem OpOk.pure {P:Program} {m:Sem Next} {σ:Sg} {h:Hp} {W:World} {nd:Nd} {v:AV} (r:HRel σ h W) (f:nd.val->∃ V,m.run P W=.ok (.value V) W/\VRel σ v V):OpOk P m σ h W ⟨nd,v,h⟩:=
 fun hn=>let ⟨V,h1,h2⟩:=f hn; ⟨σ,V,W,_,h1,.inl rfl,h2,r,Good.refl _ _ _ fun i B N e=>(r.dom i B N e).1⟩
theorem iL {h:Hp} {x:Option (Nd×AV)} {q:S1} (e:jg h x=some q):∃ nd v,x=some (nd,v)/\q=⟨nd,v,h⟩:=by
 unfold jg at e; split at e
 .cases e
 .cases e; exact ⟨_,_,rfl,rfl⟩
theorem dA {h:Hp} {x:Option AV} {q:S1} (e:dU h x=some q):∃ v,x=some v/\q=⟨.tt,v,h⟩:=by
 unfold dU at e; split at e
 .cases e
 .cases e; exact ⟨_,rfl,rfl⟩
theorem pM {σ:Sg} {a:AV} {v:Value} (h:VRel σ a v) (c:bD a.cellsA=true):VRels σ a.cellsA v.cells.toList:=by
 cases a with
 | agg l=>obtain ⟨K,rfl,hK⟩:=h; exact hK
 | any b=>
  cases b
  .simp [AV.cellsA,bD,AV.isCell] at c
  .obtain ⟨h1,h2⟩:=h
   refine ⟨v,[],?_,⟨h1,h2⟩,rfl⟩
   cases v <;> first|rfl|(exact absurd rfl (h1 _))
 | tuple l=>simp [AV.cellsA,bD,AV.isCell] at c
 | panic l=>simp [AV.cellsA,bD,AV.isCell] at c
 | lslice i n=>obtain ⟨p,len,c,rfl,h1⟩:=h; exact ⟨_,[],rfl,⟨p,len,c,rfl,h1⟩,rfl⟩
 | islice w i o n=>obtain ⟨p,len,c,rfl,h1⟩:=h; exact ⟨_,[],rfl,⟨p,len,c,rfl,h1⟩,rfl⟩
 | ptr i o=>obtain ⟨b,N,h1,rfl⟩:=h; exact ⟨_,[],rfl,⟨b,N,h1,rfl⟩,rfl⟩
 | slice i o l k=>obtain ⟨b,N,h1,rfl⟩:=h; exact ⟨_,[],rfl,⟨b,N,h1,rfl⟩,rfl⟩
 | gslice i o l k=>obtain ⟨b,N,q,cc,h1,rfl,h2⟩:=h; exact ⟨_,[],rfl,⟨b,N,q,cc,h1,rfl,h2⟩,rfl⟩
 | func f fs cs=>obtain ⟨F,K,rfl,h1,h2⟩:=h; exact ⟨_,[],rfl,⟨F,K,rfl,h1,h2⟩,rfl⟩
 | yield l=>obtain ⟨b,N,h1,rfl⟩:=h; exact ⟨_,[],rfl,⟨b,N,h1,rfl⟩,rfl⟩
 | iface t a=>obtain ⟨x,rfl,h1⟩:=h; exact ⟨_,[],rfl,⟨x,rfl,h1⟩,rfl⟩
 | map i=>obtain ⟨b,N,h1,rfl⟩:=h; exact ⟨_,[],rfl,⟨b,N,h1,rfl⟩,rfl⟩
 | bool s b=>obtain rfl:=h; exact ⟨_,[],rfl,rfl,rfl⟩
 | int s k n=>obtain rfl:=h; exact ⟨_,[],rfl,rfl,rfl⟩
 | str s b=>obtain rfl:=h; exact ⟨_,[],rfl,rfl,rfl⟩
 | nil=>obtain rfl:=h; exact ⟨_,[],rfl,rfl,rfl⟩
 | nilslice=>obtain rfl:=h; exact ⟨_,[],rfl,rfl,rfl⟩
 | eslice b=>obtain ⟨a,c,rfl,hb⟩:=h; exact ⟨_,[],rfl,⟨a,c,rfl,hb⟩,rfl⟩
 | nilfunc=>obtain rfl:=h; exact ⟨_,[],rfl,rfl,rfl⟩
 | niliface=>obtain rfl:=h; exact ⟨_,[],rfl,rfl,rfl⟩
 | nilmap=>obtain rfl:=h; exact ⟨_,[],rfl,rfl,rfl⟩
 | vslice i l=>obtain ⟨b,N,c,h1,rfl⟩:=h; exact ⟨_,[],rfl,⟨b,N,c,h1,rfl⟩,rfl⟩
 | pslice i l s n=>obtain ⟨p,len,c,rfl,h1⟩:=h; exact ⟨_,[],rfl,⟨p,len,c,rfl,h1⟩,rfl⟩
 | vptr i o=>obtain ⟨b,N,h1,rfl⟩:=h; exact ⟨_,[],rfl,⟨b,N,h1,rfl⟩,rfl⟩
theorem aR {σ:Sg} {a:AV} {v:Value} (h:VRel σ a v) (c:a.isCell=true):v.oneCell'=true:=by
 cases a with
 | any b=>
  cases b
  .cases c
  .obtain ⟨h1,h2⟩:=h
   cases v <;> first|rfl|(exact absurd rfl (h1 _))|(exact absurd rfl (h2 _))
 | agg l=>cases c
 | tuple l=>cases c
 | panic l=>cases c
 | lslice i n=>obtain ⟨p,len,c,rfl,h1⟩:=h; rfl
 | islice w i o n=>obtain ⟨p,len,c,rfl,h1⟩:=h; rfl
 | ptr i o=>obtain ⟨b,N,h1,rfl⟩:=h; rfl
 | slice i o l k=>obtain ⟨b,N,h1,rfl⟩:=h; rfl
 | gslice i o l k=>obtain ⟨b,N,q,cc,h1,rfl,h2⟩:=h; rfl
 | func f fs cs=>obtain ⟨F,K,rfl,h1,h2⟩:=h; rfl
 | yield l=>obtain ⟨b,N,h1,rfl⟩:=h; rfl
 | iface t a=>obtain ⟨x,rfl,h1⟩:=h; rfl
 | map i=>obtain ⟨b,N,h1,rfl⟩:=h; rfl
 | bool s b=>obtain rfl:=h; rfl
 | int s k n=>obtain rfl:=h; rfl
 | str s b=>obtain rfl:=h; rfl
 | nil=>obtain rfl:=h; rfl
 | nilslice=>obtain rfl:=h; rfl
 | eslice b=>obtain ⟨a,c,rfl,_⟩:=h; rfl
 | nilfunc=>obtain rfl:=h; rfl
 | niliface=>obtain rfl:=h; rfl
 | nilmap=>obtain rfl:=h; rfl
 | vslice i l=>obtain ⟨b,N,c,h1,rfl⟩:=h; rfl
 | pslice i l s n=>obtain ⟨p,len,c,rfl,h1⟩:=h; rfl
 | vptr i o=>obtain ⟨b,N,h1,rfl⟩:=h; rfl
theorem jo {σ:Sg}:∀ {l:List AV} {L:List Value},VRels σ l L->bD l=true->∀ v∈L,v.oneCell'=true
 | [],_,e,_,v,hv=>by rw [show _=[] from e] at hv; cases hv
 | a :: l,_,⟨u,us,e,r,s⟩,c,v,hv=>by
  rw [e] at hv
  simp only [bD,Bool.and_eq_true] at c
  rcases List.mem_cons.1 hv with rfl|hv
  .exact aR r c.1
  .exact jo s c.2 v hv
theorem bv {P:Program} {σ:Sg} {t:TypeId} {z:List AV} (h:zeroCells P t=some z):
  ∃ i v,P.info? t=some i/\i.zero=some v/\VRels σ z v.cells.toList/\bD z=true:=by
 unfold zeroCells at h
 split at h
 .cases h
 .rename_i i hi
  split at h
  .cases h
  .rename_i v hv
   obtain ⟨h1,h2⟩:=nZ (σ:=σ) h
   exact ⟨i,v,hi,hv,h1,h2⟩
theorem gB {P:Program} {t:TypeId} {n:Nat} (h:bY P t=some n):∃ i,P.info? t=some i/\i.size=n:=by
 unfold bY at h
 cases e:P.info? t with
 | none=>rw [e] at h; cases h
 | some i=>rw [e] at h; cases h; exact ⟨i,rfl,rfl⟩
theorem au {P:Program} {t:TypeId} {n:Nat} (h:bY P t=some n) (W:World):(sizeOf t).run P W=.ok n W:=by
 obtain ⟨i,hi,rfl⟩:=gB h
 simp [sizeOf,typeInfo,hi]
theorem ku {P:Program} {t:TypeId} {i:TypeInfo} {v:Value} (hi:P.info? t=some i) (hv:i.zero=some v) (W:World):(zeroValue t).run P W=.ok v W:=by
 simp [zeroValue,typeInfo,hi,hv]
theorem bT {P:Program} {t:TypeId} {b:Bool} (h:aQ P t=some b) (W:World):(isAgg t).run P W=.ok b W:=by
 unfold aQ at h
 cases e:P.underlying t with
 | none=>rw [e] at h; cases h
 | some d=>
  rw [e] at h
  unfold isAgg
  rw [Sem.run_bind,run_underlying e W]
  cases d <;> cases h <;> simp
theorem si {P:Program} {σ:Sg} {h:Hp} {W:World} (r:HRel σ h W) {l:List AV} {K:Array Value} (e:TypeId) (hl:VRels σ l K.toList) (m:Sem Next) (v:AV) (V:Value)
  (hm:m.run P W=.ok (.value V) (W.alloc (.cells K e))) (hv:VRel (σ.add h.size (W.heap.size,K.size)) v V):OpOk P m σ h W ⟨.tt,v,h.push (.cells l)⟩:=fun _=>by
 obtain ⟨h1,h2⟩:=r.alloc (.cells l) (.cells K e) K.size ⟨K,e,rfl,VRels.mono (Sub.add r.fresh) _ _ hl,rfl⟩
 exact ⟨_,V,_,_,hm,.inl rfl,hv,h1,h2⟩
theorem aM {σ:Sg} {i:Nat} {x:Nat×Nat}:σ.add i x i=some x:=by simp [Sg.add]
theorem GN {P:Program} {σ:Sg} {h:Hp} {W:World} (r:HRel σ h W) {t:TypeId} {q:S1} (e:rR P h t=some q):
  OpOk P (do pure (.value (<- Instr.alloc t true (.tuple #[])))) σ h W q:=by
 unfold rR at e
 split at e
 .cases e
 .rename_i z hz
  split at e
  .cases e
   obtain ⟨i,v,hi,hv,h1,_⟩:=bv (σ:=σ) hz
   refine si r t h1 _ _ (.pointer (some ⟨W.heap.size,0,none⟩)) ?_ ⟨W.heap.size,v.cells.size,aM,rfl⟩
   simp [Instr.alloc,ku hi hv,newVar,newRow]
  .cases e
theorem Mf {P:Program} {σ:Sg} {h:Hp} {W:World} (r:HRel σ h W) {t:TypeId} {a:AV} {v:Value} (hv:VRel σ a v) {q:S1} (e:LY h a=some q):
  OpOk P (do pure (.value (<- Instr.box t v))) σ h W q:=by
 unfold LY at e
 split at e
 .rename_i hc
  cases e
  refine si r t (pM hv hc) _ _ (.pointer (some ⟨W.heap.size,0,none⟩)) ?_ ⟨W.heap.size,v.cells.size,aM,rfl⟩
  simp [Instr.box,newVar,newRow]
 .cases e
end Go.Eng
