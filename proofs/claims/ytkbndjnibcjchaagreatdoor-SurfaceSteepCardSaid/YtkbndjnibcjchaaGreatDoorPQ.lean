/- What is proved: a law of conics returns true, whatever the input (part 17). No conditions beyond those of the row. -/
import Derived.Test.YtkbndjnibcjchaaGreatDoorPH
import Derived.Test.YtkbndjnibcjchaaGreatDoorPK
import Derived.Test.YtkbndjnibcjchaaGreatDoorPP
import Derived.Test.YtkbndjnibcjchaaGreatDoorRows
import Derived.WideKeyElems2
import Derived.ChangeSlices
import Derived.MakeChecks
import Derived.WalkKit
import Derived.ProofKit
set_option linter.unusedVariables false
set_option linter.unusedSimpArgs false
set_option linter.unusedSectionVars false
namespace Go.Proofs.YtkbndjnibcjchaaGreatDoor
open Go Go.Eng
theorem call77:MemoOk Tryz.prog glob hG (5,[],(.bool false true)):=known table5_ok (by kernel_rfl) (by kernel_rfl) (by kernel_rfl)
end Go.Proofs.YtkbndjnibcjchaaGreatDoor
namespace Go.Proofs.YtkbndjnibcjchaaGreatDoor.K
open Go Go.Eng Go.Ar Go.Rd Go.Dg
noncomputable section
def pickS (b:Bool) (s t:PSpec):PSpec:=match b with|true=>s|false=>t
theorem pickS_ok {f:FuncId} {s t:PSpec} (b:Bool) (hs:GOk Tryz.prog glob hG f s) (ht:GOk Tryz.prog glob hG f t):GOk Tryz.prog glob hG f (pickS b s t):=by cases b <;> assumption
theorem tFr_g:∀ x∈tFr,NOk Tryz.prog glob hG x.1 x.2:=fun x hx=>(tFr_ok x hx).lift glob hG
def tblF:List (FuncId×PSpec):=(7,gSpec [stdSh,shS,shS] VsagSF) :: tblA
theorem tblF_g:∀ x∈tblF,GOk Tryz.prog glob hG x.1 x.2:=by
 intro x hx
 rcases List.mem_cons.1 hx with rfl|hx
 .exact sagSF_ok
 .exact tblA_g x hx
def cF:Ctx:=mkG Tryz.prog glob hG tblF ext
theorem cF_ok:CtxOk cF:=mkG_ok prog_ok ext_ok tblF_g
theorem slopeSF_run (c k a b d e:Int):oneG hG.size hG.clock ((run cF 1000).call 15 (Sh.mkL [stdSh,shS,shS] [.n c,.n k,.n a,.n b,.n d,.n e]).1 hG)=some (.p (PsagSF c k a b d e),failV2):=by kernel_rfl
def VslopeSF:List Nu->Option (Prop×AV)
 | [.n c,.n k,.n a,.n b,.n d,.n e]=>some (PsagSF c k a b d e,failV2)
 | _=>none
theorem slopeSF_ok:GOk Tryz.prog glob hG 15 (gSpec [stdSh,shS,shS] VslopeSF):=by
 refine gsp_ok hG_ok hG_plain glob_lt (fun xs q v e h=>?_) ⟨_,Tryz.func15,rfl⟩
 unfold VslopeSF at e
 split at e
 .rename_i c k a b d e
  cases e
  exact ⟨cF,1000,_,cF_ok,rfl,rfl,rfl,rfl,slopeSF_run c k a b d e,h⟩
 .cases e
def tSC (p:Bool):List (FuncId×NSpec):=(5,hN (gH (memoSpec [] (.bool false true)))) :: (7,hN (gH (pickS p (gSpec [stdSh,shS,shS] VsagSG) (gSpec [stdSh,shS,shS] VsagSF)))) :: (15,hN (gH (pickS p (gSpec [stdSh,shS,shS] VslopeS) (gSpec [stdSh,shS,shS] VslopeSF)))) :: tFr
theorem tSC_g (p:Bool):∀ x∈tSC p,NOk Tryz.prog glob hG x.1 x.2:=by
 intro x hx
 rcases List.mem_cons.1 hx with rfl|hx
 .exact call77.g.h.n
 .rcases List.mem_cons.1 hx with rfl|hx
  .exact (pickS_ok p sagSG_ok sagSF_ok).h.n
  .rcases List.mem_cons.1 hx with rfl|hx
   .exact (pickS_ok p slopeS_ok slopeSF_ok).h.n
   .exact tFr_g x hx
def cSC (p:Bool):Ctx:=mkN Tryz.prog glob hG (tSC p) [] ext
theorem cSC_ok (p:Bool):CtxOk (cSC p):=mkN_ok prog_ok ext_ok (tSC_g p) fun _ h=>by cases h
def bV (b:Bool):Option AV:=match b with|true=>some (.bool false true)|false=>some (.bool false false)
def hST (T:Nat) (s z s' z':Bool) (ck d:Nat):Option AV:=match Nat.beq d 94 with
 | true=>(match Nat.blt ck T with|true=>bV s|false=>bV s')
 | false=>match Nat.beq d 104 with
  | true=>(match Nat.blt ck T with|true=>bV z|false=>bV z')
  | false=>match Nat.beq d 77||Nat.beq d 122||Nat.beq d 131 with
   | true=>some (.bool false false)
   | false=>none
def cST (T:Nat) (s z s' z':Bool):Ctx:=hinting (cSC true) (hST T s z s' z')
theorem cST_ok (T:Nat) (s z s' z':Bool):CtxOk (cST T s z s' z'):=hinting_ok (cSC_ok true) _
def drSh:List Sh:=[.i .u8,.i .i16,.i .i16,.i .i16,.i .i16,.i .i8,.i .i8,.i .i8,.i .i8,.i .i8,.i .i8,.i .i8,.i .i16,.i .u8,.i .u8,.i .u8,.i .i8,.i .i8,.i .i8,.i .i8,.i .i8,.c (.any true)]
def drNu (z0 c c2 k k2 z5 z6 z7 z8 z9 z10 z11 z12 z13 z14 z15 z16 z17 z18 z19 z20:Int):List Nu:=[.n z0,.n c,.n c2,.n k,.n k2,.n z5,.n z6,.n z7,.n z8,.n z9,.n z10,.n z11,.n z12,.n z13,.n z14,.n z15,.n z16,.n z17,.n z18,.n z19,.n z20]
def dArg (z0 c c2 k k2 z5 z6 z7 z8 z9 z10 z11 z12 z13 z14 z15 z16 z17 z18 z19 z20:Int):AV:=.agg (Sh.mkL drSh (drNu z0 c c2 k k2 z5 z6 z7 z8 z9 z10 z11 z12 z13 z14 z15 z16 z17 z18 z19 z20)).1
def aArg (x y:Int):AV:=.agg [.int true .i16 x,.int true .i16 y]
end
end Go.Proofs.YtkbndjnibcjchaaGreatDoor.K
namespace Go.Co
open Go Go.Eng Go.Ar Go.Rd Go.Dg
def ordR (x:Rat):Int:=if x.num=0 then 0 else if x.num<0 then -1 else 1
def qN (X:Rat):Rat:=qIn (decide (X.num<0)) (decide ((X.den:Int)<0)) (digs X.num.natAbs) (digs (X.den:Int).natAbs)
def okF (X:Rat):Prop:=OkQ (decide (X.num<0)) (decide ((X.den:Int)<0)) (digs X.num.natAbs) (digs (X.den:Int).natAbs)
def lN (X:Rat):Prop:=((digs X.num.natAbs).length:Int)=((digs X.num.natAbs).length:Int)/\((digs (X.den:Int).natAbs).length:Int)=((digs (X.den:Int).natAbs).length:Int)
def e4 (X:Rat):Prop:=decide (X.num<0)=decide (X.num<0)/\((digs X.num.natAbs).length:Int)=((digs X.num.natAbs).length:Int)/\decide ((X.den:Int)<0)=decide ((X.den:Int)<0)/\((digs (X.den:Int).natAbs).length:Int)=((digs (X.den:Int).natAbs).length:Int)
def ofC (n d:Int):Prop:=n.natAbs<=9223372036854775808/\d.natAbs<=9223372036854775808/\d≠0
def gN (X:Rat):Prop:=lN X/\okF X
def two (X Y Z:Rat):Prop:=(lN X/\lN Y)/\okF X/\okF Y/\SzQ Z
def mulN (X Y:Rat):Prop:=two X Y (qN X*qN Y)
def addN (X Y:Rat):Prop:=two X Y (qN X+qN Y)
def subN (X Y:Rat):Prop:=two X Y (qN X - qN Y)
def gg (k:Int):Int:=IntKind.i64.wrap (1000000+kk k)
section
variable (c k x y:Int)
def fP:Rat:=Rat.divInt (IntKind.i64.wrap x) 256
def fP2:Rat:=qN (fP x)*qN (fP x)
def fR:Rat:=qN (fP2 x)+qN (fP2 y)
def fC:Rat:=Rat.divInt (cc c) 1000000000
def fK:Rat:=Rat.divInt (gg k) 1000000
def fC2:Rat:=qN (fC c)*qN (fC c)
def fH:Rat:=qN (fC2 c)*qN (fR x y)
def fG:Rat:=qN (fK k)*qN (fH c x y)
def fL:Rat:=qN (Rat.divInt 1 1) - qN (fG c k x y)
def shapeN:Prop:=(ofC (cc c) 1000000000/\kk k=kk k/\ofC (gg k) 1000000)/\(ofC (IntKind.i64.wrap x) 256/\y=y/\ofC (IntKind.i64.wrap y) 256)/\(mulN (fP x) (fP x)/\(e4 (fP y)/\e4 (fP y))/\mulN (fP y) (fP y)/\addN (fP2 x) (fP2 y))/\ofC 1 1 /\
 (e4 (fR x y)/\e4 (fC c)/\e4 (fC c)/\e4 (fK k)/\e4 (fR x y)/\e4 (fK k)/\e4 (fC c))/\mulN (fC c) (fC c)/\(e4 (fR x y)/\e4 (fK k)/\e4 (fR x y)/\e4 (fK k)/\e4 (fC c))/\mulN (fC2 c) (fR x y)/\(e4 (fK k)/\e4 (fR x y)/\e4 (fK k)/\e4 (fC c))/\mulN (fK k) (fH c x y) /\
 (e4 (fR x y)/\e4 (fK k)/\e4 (fC c))/\subN (Rat.divInt 1 1) (fG c k x y)/\(e4 (fR x y)/\e4 (fK k)/\e4 (fC c))/\(e4 (fR x y)/\e4 (fK k))/\e4 (fR x y)
def fV (v:Int):Rat:=Rat.divInt v 4294967296
def fV2 (v:Int):Rat:=qN (fV v)*qN (fV v)
def stFN:Prop:=(((y=y/\cc c=cc c/\kk k=kk k)/\(cc c=cc c/\kk k=kk k)/\PsagSF (cc c) (kk k) (pp x) (pp x) (pp y) (pp y))/\(y=y/\cc c=cc c/\kk k=kk k)/\(cc c=cc c/\kk k=kk k)/\PsagSF (cc c) (kk k) (pp x) (pp x) (pp y) (pp y))
def slX:Sp:=s14 (cc c) (kk k) (pp x) (pp x) (pp y) (pp y)
def slY:Sp:=s12 (cc c) (kk k) (pp x) (pp x) (pp y) (pp y)
def loF (z s:Bool) (A B:Rat):Rat:=bif z then Rat.divInt 0 1 else bif s then B else A
def hiF (s:Bool) (A B:Rat):Rat:=bif s then A else B
def zN (z:Bool) (P:Prop):Prop:=bif z then P/\ofC 0 1 else P
def fD (u:Sp):Rat:=qN (fV2 u.lo) - qN (fV2 u.hi)
def fB (w:Int):Rat:=qN (fC c)*qN (fP w)
def fB2 (w:Int):Rat:=qN (fB c w)*qN (fB c w)
def fLo (z s:Bool) (u:Sp):Rat:=qN (loF z s (fV2 u.lo) (fV2 u.hi))*qN (fL c k x y)
def fHi (s:Bool) (u:Sp):Rat:=qN (hiF s (fV2 u.lo) (fV2 u.hi))*qN (fL c k x y)
def f1 (z s:Bool) (u:Sp) (w:Int):Rat:=qN (fLo c k x y z s u) - qN (fB2 c w)
def f2 (s:Bool) (u:Sp) (w:Int):Rat:=qN (fHi c k x y s u) - qN (fB2 c w)
def partN (z s:Bool) (u:Sp) (w:Int):Prop:=decide (u.lo>u.hi)=false/\(ofC u.lo 4294967296/\u.hi=u.hi/\ofC u.hi 4294967296)/\(mulN (fV u.lo) (fV u.lo)/\(e4 (fV u.hi)/\e4 (fV u.hi))/\mulN (fV u.hi) (fV u.hi))/\(subN (fV2 u.lo) (fV2 u.hi)/\gN (fD u)/\decide (ordR (qN (fD u))>0)=s) /\
 zN z ((decide (u.lo<=0)=true->decide (u.hi>=0)=z)/\(decide (u.lo<=0)=false->false=z))/\(ofC (IntKind.i64.wrap w) 256/\e4 (fC c)/\mulN (fC c) (fP w))/\mulN (fB c w) (fB c w)/\mulN (loF z s (fV2 u.lo) (fV2 u.hi)) (fL c k x y)/\e4 (fB2 c w)/\subN (fLo c k x y z s u) (fB2 c w)/\gN (f1 c k x y z s u w) /\
 (decide (ordR (qN (f1 c k x y z s u w))>0)=false->mulN (hiF s (fV2 u.lo) (fV2 u.hi)) (fL c k x y)/\e4 (fB2 c w)/\subN (fHi c k x y s u) (fB2 c w)/\gN (f2 c k x y s u w))
def badB (z s:Bool) (u:Sp) (w:Int):Bool:=bif decide (ordR (qN (f1 c k x y z s u w))>0) then true else decide (ordR (qN (f2 c k x y s u w))<0)
def stGN (s z s' z':Bool):Prop:=(((y=y/\cc c=cc c/\kk k=kk k)/\(cc c=cc c/\kk k=kk k)/\PslopeS (cc c) (kk k) (pp x) (pp x) (pp y) (pp y))/\shapeN c k x y/\partN c k x y z s (slX c k x y) x/\((!badB c k x y z s (slX c k x y) x)=true->partN c k x y z' s' (slY c k x y) y))
def stGB (s z s' z':Bool):Bool:=bif (!badB c k x y z s (slX c k x y) x)&&!badB c k x y z' s' (slY c k x y) y then true else false
end
end Go.Co
namespace Go.Proofs.YtkbndjnibcjchaaGreatDoor.K
open Go Go.Eng Go.Ar Go.Rd Go.Dg Go.Co
noncomputable section
abbrev lawC (C:Ctx) (f:FuncId) (z0 c c2 k k2 z5 z6 z7 z8 z9 z10 z11 z12 z13 z14 z15 z16 z17 z18 z19 z20 x y:Int):Option (Nd×AV):=
 oneG hG.size hG.clock ((run C 1000).call f [dArg z0 c c2 k k2 z5 z6 z7 z8 z9 z10 z11 z12 z13 z14 z15 z16 z17 z18 z19 z20,aArg x y] hG)
end
end Go.Proofs.YtkbndjnibcjchaaGreatDoor.K
namespace Go.Proofs.YtkbndjnibcjchaaGreatDoor.K
open Go Go.Eng Go.Ar Go.Rd Go.Dg Go.Co
noncomputable section
theorem st_f (z0 c c2 k k2 z5 z6 z7 z8 z9 z10 z11 z12 z13 z14 z15 z16 z17 z18 z19 z20 x y:Int):lawC (cSC false) 4 z0 c c2 k k2 z5 z6 z7 z8 z9 z10 z11 z12 z13 z14 z15 z16 z17 z18 z19 z20 x y=some (.p (stFN c k x y),.bool false true):=by kernel_rfl
theorem st_g (s z s' z':Bool) (z0 c c2 k k2 z5 z6 z7 z8 z9 z10 z11 z12 z13 z14 z15 z16 z17 z18 z19 z20 x y:Int):lawC (cST 600 s z s' z') 4 z0 c c2 k k2 z5 z6 z7 z8 z9 z10 z11 z12 z13 z14 z15 z16 z17 z18 z19 z20 x y=some (.p (stGN c k x y s z s' z'),.bool true (stGB c k x y s z s' z')):=by
 cases s <;> cases z <;> cases s' <;> cases z' <;> kernel_rfl
end
end Go.Proofs.YtkbndjnibcjchaaGreatDoor.K
namespace Go.Proofs.YtkbndjnibcjchaaGreatDoor
open Go Go.Eng
theorem gOne:Tryz.prog.globalNamed "monocle/surface.one" = some 0:=by kernel_rfl
theorem gPlaces:Tryz.prog.globalNamed "monocle/surface.places" = some 1:=by kernel_rfl
theorem tOne:(Tryz.prog.globals[0]?).map (·.type)=some 39:=by kernel_rfl
theorem tPlaces:(Tryz.prog.globals[1]?).map (·.type)=some 109:=by kernel_rfl
def tab:List (Int×List Int):=[(1,[1,2,5,6,7,8,10]),(2,[1,2,3,4,10]),(3,[11,12,13,14,15]),(4,[1,10])]
theorem var_block {W:World} {n:String} {g:Nat} {cs:Array Value} (hg:Tryz.prog.globalNamed n=some g) (h:W.var? Tryz.prog n=some cs):∃ e fr,W.heap[g]?=some (.cells cs e fr):=by
 simp only [World.var?,hg,Option.bind_some] at h
 split at h
 .cases h; rename_i e fr hh; exact ⟨_,_,hh⟩
 .cases h
theorem cell_row {W:World} {B o:Nat} {v:Value} (h:W.cell? ⟨B,o,none⟩=some v):∃ K e fr,W.heap[B]?=some (.cells K e fr)/\K[o]?=some v:=by
 unfold World.cell? at h
 split at h
 .rename_i K e fr hh
  exact ⟨K,e,fr,hh,by simpa using h⟩
 .cases h
def At (W:World) (B o:Nat) (zs:List Int):Prop:=∀ i,i<zs.length->W.cell? ⟨B,o+i,none⟩=some (.int .i64 (zs.getD i 0))
theorem slice_at {W:World} {fuel:Nat} {v:Value} {zs:List Int} {p:List MemPlace} (hne:0<zs.length) (hf:v.formed Tryz.prog 44=true)
  (h:DataW.trod (fun _=>()) Tryz.prog W 0 (fun _=>true) false fuel 44 v.cells.toList=some (.slice (ChangeShapes.lits .i64 zs) [],p)):
  ∃ B o c,v=.slice (some ⟨B,o,none⟩) zs.length c/\At W B o zs/\∀ i,i<zs.length->MemPlace.cell B (o+i)∈p:=by
 rcases ChangeShapes.open_ints (k:=.i64) Tryz.underlying44 Tryz.underlying3 (by kernel_rfl) h with ⟨_,hx⟩|⟨a,len,cap,ys,hcs,_,hl,_,hlen,hx,hcell,_⟩
 .simp at hx
 .simp only [Prod.mk.injEq,DataW.slice.injEq,if_true] at hx hlen
  obtain ⟨⟨h1,h2⟩,h3⟩:=hx
  have inj:∀ l m:List Int,(ChangeShapes.lits (H:=Unit) .i64 l)=ChangeShapes.lits .i64 m->l=m:=by
   intro l
   induction l with
   | nil=>intro m e; cases m with
    | nil=>rfl
    | cons=>simp [ChangeShapes.lits] at e
   | cons x l ih=>intro m e; cases m with
    | nil=>simp [ChangeShapes.lits] at e
    | cons y m=>
     simp only [ChangeShapes.lits,List.map_cons,List.cons.injEq,DataW.lit.injEq,Lit.int.injEq,true_and] at e
     rw [e.1,ih m e.2]
  have hd:ys.drop len=[]:=(inj [] _ h2).symm
  have ht:=inj _ _ h1
  have hle:ys.length<=len:=by simpa using hd
  have e1:ys.take len=ys:=List.take_of_length_le hle
  rw [e1] at ht
  subst ht
  have hlen2:len=zs.length:=by omega
  subst hlen2
  obtain ⟨B,o,spot⟩:=a
  have c0:=hcell 0 hne
  have hs:spot=none:=by
   simp only [Addr.add,if_true,World.cell?] at c0
   split at c0
   .cases spot with
    | none=>rfl
    | some s=>simp at c0
   .cases c0
  subst hs
  refine ⟨B,o,cap,?_,fun i hi=>?_,fun i hi=>?_⟩
  .cases v with
   | agg c=>simp [Value.formed,Tryz.underlying44] at hf
   | tuple c=>simp [Value.formed] at hf
   | _=>exact (List.cons.inj (show [_]=[_] from hcs)).1
  .have:=hcell i hi
   simp only [Addr.add] at this
   split at this
   .rename_i h0; subst h0; exact this
   .exact this
  .rw [h3]
   exact MemPlace.mem_row.2 ⟨i,hi,rfl⟩
theorem entry_at {W:World} {n:Nat} {x:MapEntry} {y:Lit×DataW Unit} (h:WideElems.rd Tryz.prog 3 (WideElems.elemAt (fun _=>()) Tryz.prog W 0 (fun _=>true) false n 44) x=some y) {k:Int} {zs:List Int}
  (hy:y=(.int .i64 k,.slice (ChangeShapes.lits .i64 zs) [])) (hne:0<zs.length):
  x.key=.int .i64 k/\∃ B o c,x.val=.slice (some ⟨B,o,none⟩) zs.length c/\At W B o zs/\∀ i,i<zs.length->MemPlace.cell B (o+i)∈WideElems.pl (WideElems.elemAt (fun _=>()) Tryz.prog W 0 (fun _=>true) false n 44) x:=by
 subst hy
 have hk:=WideElems.rd_key h
 unfold WideElems.rd at h
 simp only [Option.bind_eq_some_iff,Option.map_eq_some_iff] at h
 obtain ⟨key,h1,z,h2,h3⟩:=h
 simp only [Prod.mk.injEq] at h3
 refine ⟨?_,?_⟩
 .have e0:keyOf Tryz.prog 3 x.key=mapKey Tryz.prog 3 x.key:=by
   unfold keyOf
   rw [Tryz.underlying3]
  have e1:∀ v,mapKey Tryz.prog 3 v=match v with
    | .int q' n=>if q'=.i64/\(Lit.int .i64 n).wf=true then some (.int .i64 n) else none
    | _=>none:=by
   intro v
   unfold mapKey
   rw [Tryz.underlying3]
   cases v <;> rfl
  rw [e0,e1] at hk
  split at hk
  .rename_i q' m hq
   split at hk
   .rename_i hc
    rw [hq]
    cases hk
    rw [hc.1]
   .cases hk
  .cases hk
 .have h2':=h2
  unfold WideElems.elemAt at h2
  split at h2
  .rename_i hf
   obtain ⟨d,p⟩:=z
   simp only at h3
   rw [h3.2] at h2
   obtain ⟨B,o,c,e1,e2,e3⟩:=slice_at hne hf h2
   refine ⟨B,o,c,e1,e2,fun i hi=>?_⟩
   unfold WideElems.pl
   rw [h2']
   exact e3 i hi
  .cases h2
end Go.Proofs.YtkbndjnibcjchaaGreatDoor
namespace Go.Proofs.YtkbndjnibcjchaaGreatDoor
open Go Go.Eng
theorem rels_map {α:Type} {σ:Sg} {f:α->AV} {g:α->Value}:∀ {l:List α},(∀ x∈l,VRel σ (f x) (g x))->VRels σ (l.map f) (l.map g)
 | [],_=>rfl
 | a :: l,h=>⟨g a,l.map g,rfl,h a (by simp),rels_map fun x hx=>h x (by simp [hx])⟩
theorem view_rel {σ:Sg} {W:World} {B o:Nat} {zs:List Int} {K:Array Value} {e:TypeId} {fr:Nat×Nat} (hK:W.heap[B]?=some (.cells K e fr)) (h:At W B o zs):
  VRels σ (zs.map fun n=>.int false .i64 n) ((K.toList.drop o).take (zs.map fun n=>AV.int false .i64 n).length):=by
 have:(K.toList.drop o).take (zs.map fun n=>AV.int false .i64 n).length=zs.map (Value.int .i64):=by
  apply List.ext_getElem?
  intro i
  rw [List.getElem?_take,List.length_map]
  by_cases hi:i<zs.length
  .rw [if_pos hi,List.getElem?_drop]
   obtain ⟨K',e',fr',h1,h2⟩:=cell_row (h i hi)
   rw [hK] at h1; cases h1
   rw [Array.getElem?_toList,h2]
   simp [List.getD_eq_getElem?_getD,hi]
  .rw [if_neg hi,List.getElem?_eq_none (by simpa using hi)]
 rw [this]
 exact rels_map fun x _=>rfl
def absK (k:Int):AV×AV:=
 if k=1 then (.int false .i64 1,.vslice 3 7) else if k=2 then (.int false .i64 2,.vslice 4 5) else if k=3 then (.int false .i64 3,.vslice 5 5) else (.int false .i64 4,.vslice 6 2)
def esA:List (AV×AV):=[(.int false .i64 1,.vslice 3 7),(.int false .i64 2,.vslice 4 5),(.int false .i64 3,.vslice 5 5),(.int false .i64 4,.vslice 6 2)]
def sg (bm B1 o1 B2 o2 B3 o3 B4 o4:Nat):Sg
 | 0=>some (0,2)
 | 1=>some (1,1)
 | 2=>some (bm,0)
 | 3=>some (B1,o1)
 | 4=>some (B2,o2)
 | 5=>some (B3,o3)
 | 6=>some (B4,o4)
 | _=>none
theorem nodup_es:(esA.map (·.1)).Nodup:=by
 simp [esA]
theorem build_rel {W:World} {cs0 cs1 K1 K2 K3 K4:Array Value} {e0 e1 d1 d2 d3 d4:TypeId} {bm clock B1 o1 B2 o2 B3 o3 B4 o4:Nat} {es:Array MapEntry}
  (h0:W.heap[0]?=some (.cells cs0 e0 (0,0))) (one:cs0.toList=[.int .i64 4294967296,.int .i64 4294967296]) (h1:W.heap[1]?=some (.cells cs1 e1 (0,0))) (hcs:cs1.toList=[.map (some bm)]) (hbm:W.heap[bm]?=some (.map es clock))
  (H1:W.heap[B1]?=some (.cells K1 d1 (0,0))) (H2:W.heap[B2]?=some (.cells K2 d2 (0,0))) (H3:W.heap[B3]?=some (.cells K3 d3 (0,0))) (H4:W.heap[B4]?=some (.cells K4 d4 (0,0)))
  (a1:At W B1 o1 [1,2,5,6,7,8,10]) (a2:At W B2 o2 [1,2,3,4,10]) (a3:At W B3 o3 [11,12,13,14,15]) (a4:At W B4 o4 [1,10])
  (n1:B1≠0/\B1≠1) (n2:B2≠0/\B2≠1) (n3:B3≠0/\B3≠1) (n4:B4≠0/\B4≠1)
  (kk:MapEntry->Int) (perm:(es.toList.map fun x=>absK (kk x)).Perm esA)
  (ent:∀ x∈es.toList,(∃ c,x.key=.int .i64 1/\kk x=1/\x.val=.slice (some ⟨B1,o1,none⟩) 7 c)\/(∃ c,x.key=.int .i64 2/\kk x=2/\x.val=.slice (some ⟨B2,o2,none⟩) 5 c) ∨
   (∃ c,x.key=.int .i64 3/\kk x=3/\x.val=.slice (some ⟨B3,o3,none⟩) 5 c)\/(∃ c,x.key=.int .i64 4/\kk x=4/\x.val=.slice (some ⟨B4,o4,none⟩) 2 c)):
  HRel (sg bm B1 o1 B2 o2 B3 o3 B4 o4) hG W:=by
 have lt:∀ {B:Nat} {o:Obj},W.heap[B]?=some o->B<W.heap.size:=fun h=>(Array.getElem?_eq_some_iff.1 h).1
 have hm:∀ {B:Nat} {K:Array Value} {e:TypeId},W.heap[B]?=some (.cells K e (0,0))->B≠bm:=fun h e=>by rw [e,hbm] at h; cases h
 have b0:=hm h0; have b1:=hm h1; have b2:=hm H1; have b3:=hm H2; have b4:=hm H3; have b5:=hm H4
 refine ⟨rfl,fun i b hb hd=>?_,fun i B N e=>?_,fun i j b c B N M hb hc hbd hcd e f=>?_⟩
 .have hi:=Hp.get_lt hb
  match i,hi with
  | 0,_=>
   cases hb
   exact ⟨0,2,_,rfl,h0,cs0,e0,rfl,by rw [one]; exact ⟨_,_,rfl,rfl,_,_,rfl,rfl,rfl⟩,by rw [<- Array.length_toList,one]; rfl⟩
  | 1,_=>
   cases hb
   exact ⟨1,1,_,rfl,h1,cs1,e1,rfl,by rw [hcs]; exact ⟨_,_,rfl,⟨bm,0,rfl,rfl⟩,rfl⟩,by rw [<- Array.length_toList,hcs]; rfl⟩
  | 2,_=>
   cases hb
   refine ⟨bm,0,_,rfl,hbm,es,clock,es.toList.map fun x=>absK (kk x),rfl,perm,nodup_es,?_,?_⟩
   .rw [List.map_map]
    refine rels_map fun x hx=>?_
    rcases ent x hx with ⟨c,e1,e2,_⟩|⟨c,e1,e2,_⟩|⟨c,e1,e2,_⟩|⟨c,e1,e2,_⟩ <;> (rw [e1]; simp only [Function.comp_apply,e2]; rfl)
   .rw [List.map_map]
    refine rels_map fun x hx=>?_
    rcases ent x hx with ⟨c,_,e2,e3⟩|⟨c,_,e2,e3⟩|⟨c,_,e2,e3⟩|⟨c,_,e2,e3⟩ <;> (rw [e3]; simp only [Function.comp_apply,e2])
    .exact ⟨B1,o1,c,rfl,rfl⟩
    .exact ⟨B2,o2,c,rfl,rfl⟩
    .exact ⟨B3,o3,c,rfl,rfl⟩
    .exact ⟨B4,o4,c,rfl,rfl⟩
  | 3,_=>cases hb; exact ⟨B1,o1,_,rfl,H1,K1,d1,_,rfl,view_rel H1 a1⟩
  | 4,_=>cases hb; exact ⟨B2,o2,_,rfl,H2,K2,d2,_,rfl,view_rel H2 a2⟩
  | 5,_=>cases hb; exact ⟨B3,o3,_,rfl,H3,K3,d3,_,rfl,view_rel H3 a3⟩
  | 6,_=>cases hb; exact ⟨B4,o4,_,rfl,H4,K4,d4,_,rfl,view_rel H4 a4⟩
 .match i,e with
  | 0,e=>cases e; exact ⟨by decide,lt h0⟩
  | 1,e=>cases e; exact ⟨by decide,lt h1⟩
  | 2,e=>cases e; exact ⟨by decide,lt hbm⟩
  | 3,e=>cases e; exact ⟨by decide,lt H1⟩
  | 4,e=>cases e; exact ⟨by decide,lt H2⟩
  | 5,e=>cases e; exact ⟨by decide,lt H3⟩
  | 6,e=>cases e; exact ⟨by decide,lt H4⟩
 .have hi:=Hp.get_lt hb
  have hj:=Hp.get_lt hc
  match i,hi,j,hj with
  | 0,_,0,_=>exact .inl rfl
  | 1,_,1,_=>exact .inl rfl
  | 2,_,2,_=>exact .inl rfl
  | 0,_,1,_|0,_,2,_|0,_,3,_|0,_,4,_|0,_,5,_|0,_,6,_
  | 1,_,0,_|1,_,2,_|1,_,3,_|1,_,4,_|1,_,5,_|1,_,6,_
  | 2,_,0,_|2,_,1,_|2,_,3,_|2,_,4,_|2,_,5,_|2,_,6,_
  | 3,_,0,_|4,_,0,_|5,_,0,_|6,_,0,_
  | 3,_,1,_|4,_,1,_|5,_,1,_|6,_,1,_
  | 3,_,2,_|4,_,2,_|5,_,2,_|6,_,2,_=>
   exfalso
   simp only [sg,Option.some.injEq,Prod.mk.injEq] at e f
   omega
  | 3,_,3,_|3,_,4,_|3,_,5,_|3,_,6,_|4,_,3,_|4,_,4,_|4,_,5,_|4,_,6,_
  | 5,_,3,_|5,_,4,_|5,_,5,_|5,_,6,_|6,_,3,_|6,_,4,_|6,_,5,_|6,_,6,_=>
   cases hb; cases hc; exact .inr ⟨rfl,rfl⟩
end Go.Proofs.YtkbndjnibcjchaaGreatDoor
namespace Go.Proofs.YtkbndjnibcjchaaGreatDoor
open Go Go.Eng
def litK:Lit->Int
 | .int _ n=>n
 | _=>0
theorem pw_eq:∀ {l:List MapEntry},l.Pairwise (fun a b=>a.key≠b.key)->∀ {x y:MapEntry},x∈l->y∈l->x.key=y.key->x=y
 | [],_,x,_,h,_,_=>by cases h
 | a :: l,hp,x,y,hx,hy,hk=>by
  rw [List.pairwise_cons] at hp
  rcases List.mem_cons.1 hx with hx1|hx1 <;> rcases List.mem_cons.1 hy with hy1|hy1
  .rw [hx1,hy1]
  .rw [hx1] at hk; exact absurd hk (hp.1 y hy1)
  .rw [hy1] at hk; exact absurd hk.symm (hp.1 x hx1)
  .exact pw_eq hp.2 hx1 hy1 hk
theorem two_of_len {α:Type}:∀ {l:List α},l.length=2->∃ a b,l=[a,b]
 | [a,b],_=>⟨a,b,rfl⟩
 | [],h=>by cases h
 | [_],h=>by cases h
 | _ :: _ :: _ :: _,h=>by simp at h
def numD:DataW Unit->Int
 | .lit (.int _ n)=>n
 | _=>0
def partsD:DataW Unit->List Int
 | .agg l=>l.map numD
 | _=>[]
set_option maxRecDepth 100000 in
theorem of_laid {W:World} (h:laidMetH Tryz.prog [("monocle/surface.one",Rows.laid_monocle_surface_one),("monocle/surface.places",Rows.laid_monocle_surface_places)] W):
  ∃ σ:Sg,(∀ gl i,glob gl=some i->∃ N,σ i=some (gl,N))/\HRel σ hG W:=by
 rw [MakeChecks.laidMetH_plain _ _ _ (by kernel_rfl)] at h
 obtain ⟨ps,⟨g0,t0,cs0,f0,p0,q0,hg0,ht0,hv0,hd0,⟨g1,t1,cs1,f1,p1,q1,hg1,ht1,hv1,hd1,hq1,hps1⟩,hps0⟩,hnd,hfr⟩:=h
 obtain rfl:=Option.some.inj (gOne.symm.trans hg0)
 obtain rfl:=Option.some.inj (gPlaces.symm.trans hg1)
 obtain rfl:=Option.some.inj (tOne.symm.trans ht0)
 obtain rfl:=Option.some.inj (tPlaces.symm.trans ht1)
 have q1e:q1=[]:=hq1
 subst q1e
 rw [List.append_nil] at hps1
 subst hps1 hps0
 obtain ⟨e0,r0,hb0⟩:=var_block gOne hv0
 obtain ⟨e1,r1,hb1⟩:=var_block gPlaces hv1
 have one:cs0.toList=[.int .i64 4294967296,.int .i64 4294967296]:=by
  obtain ⟨y0,y1,n,hx,hl,h0,h1⟩:=ChangeShapes.trod_struct2 Tryz.underlying39 hd0
  have c3:Tryz.prog.cellsOf 3=1:=by kernel_rfl
  have cT:Tryz.prog.cellsOf 39=2:=by kernel_rfl
  rw [cT] at hl
  obtain ⟨a,b,hab⟩:=two_of_len hl
  rw [hab] at h0 h1 ⊢
  obtain ⟨n0,m1,m2,_⟩:=DataW.trod_int (k:=.i64) Tryz.underlying3 h0
  obtain ⟨n1,m3,m4,_⟩:=DataW.trod_int (k:=.i64) Tryz.underlying3 h1
  rw [c3] at m1 m3
  have m1:[a]=[.int .i64 n0]:=m1
  have m3:[b]=[.int .i64 n1]:=m3
  have hx1:DataW.agg [.lit (.int .i64 4294967296),.lit (.int .i64 4294967296)]=DataW.agg [y0.1,y1.1]:=(Prod.mk.inj hx).1
  have hk:=congrArg partsD hx1
  rw [m2,m4] at hk
  have hk:[4294967296,4294967296]=[n0,n1]:=hk
  have j1:=(List.cons.inj hk).1
  have j2:=(List.cons.inj (List.cons.inj hk).2).1
  rw [(List.cons.inj m1).1,(List.cons.inj m3).1,<- j1,<- j2]
 rcases WideElems.open_map Tryz.underlying109 hd1 with ⟨_,hx⟩|⟨bm,es,clock,n,_,hcs,hbm,_,F,hx⟩
 .cases (Prod.mk.inj hx).1
 obtain ⟨hx1,hx2⟩:=Prod.mk.inj hx
 have hL:(es.toList.map (WideElems.rg Tryz.prog 3 (WideElems.elemAt (fun _=>()) Tryz.prog W 0 (fun _=>true) false n 44))).foldr DataW.insert []=tab.map fun kz=>((.int .i64 kz.1,.slice (ChangeShapes.lits .i64 kz.2) []):Lit×DataW Unit):=by
  have hx1:DataW.map (tab.map fun kz=>((.int .i64 kz.1,.slice (ChangeShapes.lits .i64 kz.2) []):Lit×DataW Unit))=DataW.map _:=hx1
  injection hx1 with hx1
  exact hx1.symm
 have perm:=WideShapes.sorted_perm (es.toList.map (WideElems.rg Tryz.prog 3 (WideElems.elemAt (fun _=>()) Tryz.prog W 0 (fun _=>true) false n 44)))
 rw [hL] at perm
 generalize hR:WideElems.elemAt (fun _=>()) Tryz.prog W 0 (fun _=>true) false n 44=R at *
 have ent:∀ x∈es.toList,∀ kz:Int×List Int,0<kz.2.length->WideElems.rg Tryz.prog 3 R x=(.int .i64 kz.1,.slice (ChangeShapes.lits .i64 kz.2) []) ->
   x.key=.int .i64 kz.1/\∃ B o c,x.val=.slice (some ⟨B,o,none⟩) kz.2.length c/\At W B o kz.2/\∀ i,i<kz.2.length->MemPlace.cell B (o+i)∈p1:=by
  intro x hxm kz hne hrg
  obtain ⟨y,hy⟩:=F.reads x hxm
  rw [WideElems.rg_of hy] at hrg
  subst hR
  obtain ⟨h1,B,o,c,h2,h3,h4⟩:=entry_at hy hrg hne
  refine ⟨h1,B,o,c,h2,h3,fun i hi=>?_⟩
  rw [hx2]
  exact List.mem_cons_of_mem _ (List.mem_flatMap.2 ⟨x,hxm,h4 i hi⟩)
 have pick:∀ kz∈tab,∃ x∈es.toList,WideElems.rg Tryz.prog 3 R x=(.int .i64 kz.1,.slice (ChangeShapes.lits .i64 kz.2) []):=by
  intro kz hkz
  have h1:=perm.mem_iff.1 (List.mem_map.2 ⟨kz,hkz,rfl⟩)
  obtain ⟨x,h2,h3⟩:=List.mem_map.1 h1
  exact ⟨x,h2,h3⟩
 obtain ⟨x1,hm1,hr1⟩:=pick (1,[1,2,5,6,7,8,10]) (by simp [tab])
 obtain ⟨x2,hm2,hr2⟩:=pick (2,[1,2,3,4,10]) (by simp [tab])
 obtain ⟨x3,hm3,hr3⟩:=pick (3,[11,12,13,14,15]) (by simp [tab])
 obtain ⟨x4,hm4,hr4⟩:=pick (4,[1,10]) (by simp [tab])
 obtain ⟨k1,B1,o1,c1,v1,a1,m1⟩:=ent x1 hm1 (1,[1,2,5,6,7,8,10]) (by decide) hr1
 obtain ⟨k2,B2,o2,c2,v2,a2,m2⟩:=ent x2 hm2 (2,[1,2,3,4,10]) (by decide) hr2
 obtain ⟨k3,B3,o3,c3,v3,a3,m3⟩:=ent x3 hm3 (3,[11,12,13,14,15]) (by decide) hr3
 obtain ⟨k4,B4,o4,c4,v4,a4,m4⟩:=ent x4 hm4 (4,[1,10]) (by decide) hr4
 have at0:∀ {zs:List Int} {B o:Nat},0<zs.length->At W B o zs->(∀ i,i<zs.length->MemPlace.cell B (o+i)∈p1)->∃ K d,W.heap[B]?=some (.cells K d (0,0))/\o<K.size/\MemPlace.cell B o∈p1:=by
  intro zs B o hne ha hm
  have hp:=hm 0 hne
  obtain ⟨K,e,fr,h1,h2⟩:=cell_row (ha 0 hne)
  obtain ⟨⟨K',d,h3⟩,_⟩:=hfr B (o+0) (List.mem_append_right _ (List.mem_append_right _ hp))
  rw [h1] at h3; cases h3
  exact ⟨K,_,h1,(Array.getElem?_eq_some_iff.1 h2).1,hp⟩
 obtain ⟨K1,d1,H1,l1,u1⟩:=at0 (by decide) a1 m1
 obtain ⟨K2,d2,H2,l2,u2⟩:=at0 (by decide) a2 m2
 obtain ⟨K3,d3,H3,l3,u3⟩:=at0 (by decide) a3 m3
 obtain ⟨K4,d4,H4,l4,u4⟩:=at0 (by decide) a4 m4
 have z0:cs0.size=2:=by rw [<- Array.length_toList,one]; rfl
 have z1:cs1.size=1:=by rw [<- Array.length_toList,hcs]; rfl
 have f2:W.heap[0]?=some (.cells cs0 e0 (0,0)):=by
  obtain ⟨⟨c,t,h3⟩,_⟩:=hfr 0 0 (by
   refine List.mem_append_left _ (List.mem_append_left _ (MemPlace.mem_row.2 ⟨0,by omega,rfl⟩)))
  rw [hb0] at h3; cases h3; exact hb0
 have f0:W.heap[1]?=some (.cells cs1 e1 (0,0)):=by
  obtain ⟨⟨c,t,h3⟩,_⟩:=hfr 1 0 (by
   refine List.mem_append_right _ (List.mem_append_left _ (MemPlace.mem_row.2 ⟨0,by omega,rfl⟩)))
  rw [hb1] at h3; cases h3; exact hb1
 have apart:∀ {B o:Nat} {K:Array Value} {d:TypeId},W.heap[B]?=some (.cells K d (0,0))->o<K.size->MemPlace.cell B o∈p1->B≠0/\B≠1:=by
  intro B o K d hB ho hp
  constructor
  .rintro rfl
   rw [f2] at hB; cases hB
   have:=(List.nodup_append.1 hnd).2.2 (.cell 0 o) (List.mem_append_left _ (MemPlace.mem_row.2 ⟨o,ho,by simp⟩)) (.cell 0 o) (List.mem_append_right _ hp)
   exact this rfl
  .rintro rfl
   rw [f0] at hB; cases hB
   have:=(List.nodup_append.1 (List.nodup_append.1 hnd).2.1).2.2 (.cell 1 o) (MemPlace.mem_row.2 ⟨o,ho,by simp⟩) (.cell 1 o) hp
   exact this rfl
 have keys:∀ x∈es.toList,∀ y∈es.toList,x.key=y.key->x=y:=by
  intro x hx y hy hk
  have hpw:=((MapKept.stamped_iff es clock).1 F.stamped).2.2
  exact pw_eq hpw hx hy hk
 refine ⟨sg bm B1 o1 B2 o2 B3 o3 B4 o4,fun gl i hgi=>?_,build_rel f2 one f0 hcs hbm H1 H2 H3 H4 a1 a2 a3 a4 (apart H1 l1 u1) (apart H2 l2 u2) (apart H3 l3 u3) (apart H4 l4 u4) (fun x=>litK (WideElems.rg Tryz.prog 3 R x).1) ?_ ?_⟩
 .unfold glob at hgi
  split at hgi
  .rename_i hg
   cases hgi
   rw [Nat.eq_of_beq_eq_true hg]
   exact ⟨2,rfl⟩
  .split at hgi
   .rename_i hg
    cases hgi
    rw [Nat.eq_of_beq_eq_true hg]
    exact ⟨1,rfl⟩
   .cases hgi
 .have:=(perm.map fun y=>absK (litK y.1)).symm
  rw [List.map_map] at this
  exact this
 .intro x hx
  have hx0:WideElems.rg Tryz.prog 3 R x∈tab.map fun kz=>((.int .i64 kz.1,.slice (ChangeShapes.lits .i64 kz.2) []):Lit×DataW Unit):=perm.mem_iff.2 (List.mem_map.2 ⟨x,hx,rfl⟩)
  obtain ⟨kz,hkz,hrg⟩:=List.mem_map.1 hx0
  simp only [tab,List.mem_cons,List.not_mem_nil,or_false] at hkz
  rcases hkz with rfl|rfl|rfl|rfl
  .obtain ⟨k,_⟩:=ent x hx _ (by decide) hrg.symm
   have:=keys x hx x1 hm1 (k.trans k1.symm)
   subst this
   exact .inl ⟨c1,k,by rw [hr1]; rfl,v1⟩
  .obtain ⟨k,_⟩:=ent x hx _ (by decide) hrg.symm
   have:=keys x hx x2 hm2 (k.trans k2.symm)
   subst this
   exact .inr (.inl ⟨c2,k,by rw [hr2]; rfl,v2⟩)
  .obtain ⟨k,_⟩:=ent x hx _ (by decide) hrg.symm
   have:=keys x hx x3 hm3 (k.trans k3.symm)
   subst this
   exact .inr (.inr (.inl ⟨c3,k,by rw [hr3]; rfl,v3⟩))
  .obtain ⟨k,_⟩:=ent x hx _ (by decide) hrg.symm
   have:=keys x hx x4 hm4 (k.trans k4.symm)
   subst this
   exact .inr (.inr (.inr ⟨c4,k,by rw [hr4]; rfl,v4⟩))
end Go.Proofs.YtkbndjnibcjchaaGreatDoor
namespace Go.Rd
open Go Go.Eng Go.Ar
structure Bd (s:Sp) (M:Int):Prop where
 e:s.e=0
 lo:-M<=s.lo
 le:s.lo<=s.hi
 hi:s.hi<=M
structure En (s:Sp) (N D:Int):Prop where
 lo:s.lo*D<=N
 hi:N<=s.hi*D
theorem rd_f {n d:Int} (hd:0<d):rd n d false*d<=n/\n<rd n d false*d+d:=by
 have h1:=Int.mul_ediv_add_emod n d
 have h2:=Int.emod_nonneg n (show d≠0 by omega)
 have h3:=Int.emod_lt_of_pos n hd
 show n / d*d<=n/\n<n / d*d+d
 rw [Int.mul_comm] at h1
 omega
theorem rd_t {n d:Int} (hd:0<d):n<=rd n d true*d/\rd n d true*d<n+d:=by
 have:=rd_f (n:=-n) hd
 have e:rd n d true=-(rd (-n) d false):=rfl
 rw [e,Int.neg_mul]
 omega
theorem rd_le_of {n d M:Int} (hd:0<d) (h:n<=M*d):rd n d true<=M:=by
 have:=(rd_t (n:=n) hd).2
 rcases Int.lt_or_le M (rd n d true) with c|c
 .have:(M+1)*d<=rd n d true*d:=Int.mul_le_mul_of_nonneg_right (by omega) (by omega)
  rw [Int.add_mul] at this
  omega
 .exact c
theorem le_rd_of {n d M:Int} (hd:0<d) (h:M*d<=n):M<=rd n d false:=by
 have:=(rd_f (n:=n) hd).2
 rcases Int.lt_or_le (rd n d false) M with c|c
 .have:(rd n d false+1)*d<=M*d:=Int.mul_le_mul_of_nonneg_right (by omega) (by omega)
  rw [Int.add_mul] at this
  omega
 .exact c
theorem mul_bd {a n M L:Int} (h1:-M<=a) (h2:a<=M) (h3:-L<=n) (h4:n<=L):-(M*L)<=a*n/\a*n<=M*L:=by
 have k1:=Int.mul_nonneg (show 0<=M - a by omega) (show 0<=L - n by omega)
 have k2:=Int.mul_nonneg (show 0<=M+a by omega) (show 0<=L+n by omega)
 have k3:=Int.mul_nonneg (show 0<=M - a by omega) (show 0<=L+n by omega)
 have k4:=Int.mul_nonneg (show 0<=M+a by omega) (show 0<=L - n by omega)
 constructor <;> grind
theorem mid_mul {a b N D n l h:Int} (_hD:0<D) (h1:a*D<=N) (h2:N<=b*D) (l1:l<=a*n) (l2:l<=b*n) (u1:a*n<=h) (u2:b*n<=h):l*D<=N*n/\N*n<=h*D:=by
 have m1:=Int.mul_le_mul_of_nonneg_right l1 (show 0<=D by omega)
 have m2:=Int.mul_le_mul_of_nonneg_right l2 (show 0<=D by omega)
 have m3:=Int.mul_le_mul_of_nonneg_right u1 (show 0<=D by omega)
 have m4:=Int.mul_le_mul_of_nonneg_right u2 (show 0<=D by omega)
 rcases Int.le_total 0 n with c|c
 .have q1:=Int.mul_le_mul_of_nonneg_right h1 c
  have q2:=Int.mul_le_mul_of_nonneg_right h2 c
  constructor <;> grind
 .have q1:=Int.mul_le_mul_of_nonpos_right h1 c
  have q2:=Int.mul_le_mul_of_nonpos_right h2 c
  constructor <;> grind
theorem scale_op {s:Sp} {n d M L M':Int} (h:Bd s M) (hM:M<=4503599627370496) (hn:-L<=n/\n<=L) (hL:L<=4611686018427387904) (hd:1<=d) (hd':d<=4611686018427387904) (hb:M*L<=M'*d) (hM':M'<=4503599627370496) (hbig:M*L<18446744073709551615*d):
  Bd (xScaleS s.lo s.hi n d) M'/\(xScaleS s.lo s.hi n d).lo=rd (mn (s.lo*n) (s.hi*n)) d false/\(xScaleS s.lo s.hi n d).hi=rd (mx (s.lo*n) (s.hi*n)) d true:=by
 obtain ⟨_,h1,h2,h3⟩:=h
 have ha:=mul_bd (n:=n) (L:=L) h1 (show s.lo<=M by omega) hn.1 hn.2
 have hb':=mul_bd (n:=n) (L:=L) (show -M<=s.hi by omega) h3 hn.1 hn.2
 have hx:xScaleS s.lo s.hi n d=scaleS s.lo s.hi n d:=xScaleS_eq _ _ _ _ fun _ _=>by
  have q:0<=abH s.lo s.hi/\abH s.lo s.hi<=M:=by
   have:=le_mx s.hi (-s.lo); unfold abH; omega
  have q':0<=sg n n/\sg n n<=L:=by
   unfold sg; cases hh:decide (n<0) <;> simp at hh ⊢ <;> omega
  have:=Int.mul_le_mul q.2 q'.2 q'.1 (by omega)
  omega
 have o1:okSp s.lo s.hi=true:=okSp_iff.2 (by omega)
 have o2:okR n d=true:=by simp [okR]; omega
 rw [hx]
 unfold scaleS
 rw [o1,o2,cond_true,cond_true]
 have m:=mn_le (s.lo*n) (s.hi*n)
 have k:=le_mx (s.lo*n) (s.hi*n)
 have l1:-M'<=rd (mn (s.lo*n) (s.hi*n)) d false:=le_rd_of (by omega) (by rw [Int.neg_mul]; omega)
 have l2:rd (mx (s.lo*n) (s.hi*n)) d true<=M':=rd_le_of (by omega) (by omega)
 have l3:=rd_le (mn (s.lo*n) (s.hi*n)) d (by omega)
 have l4:=rd_lt_rd (n:=mn (s.lo*n) (s.hi*n)) (m:=mx (s.lo*n) (s.hi*n)) (d:=d) (by omega) (by omega) true
 unfold toldS
 rw [okF_iff.2 (by omega),okF_iff.2 (by omega)]
 exact ⟨⟨rfl,l1,Int.le_trans l3 l4,l2⟩,rfl,rfl⟩
theorem scale_en {s r:Sp} {n d N D:Int} (hD:0<D) (hd:0<d) (h:En s N D) (e1:r.lo=rd (mn (s.lo*n) (s.hi*n)) d false) (e2:r.hi=rd (mx (s.lo*n) (s.hi*n)) d true):En r (N*n) (D*d):=by
 have m:=mn_le (s.lo*n) (s.hi*n)
 have k:=le_mx (s.lo*n) (s.hi*n)
 have f:=(rd_f (n:=mn (s.lo*n) (s.hi*n)) hd).1
 have t:=(rd_t (n:=mx (s.lo*n) (s.hi*n)) hd).1
 rw [<- e1] at f; rw [<- e2] at t
 have:=mid_mul (n:=n) hD h.lo h.hi (l:=r.lo*d) (h:=r.hi*d) (by omega) (by omega) (by omega) (by omega)
 refine ⟨?_,?_⟩
 .have:=this.1; grind
 .have:=this.2; grind
end Go.Rd
namespace Go.Rd
open Go Go.Eng Go.Ar
theorem add_op {s t:Sp} {M N:Int} (h:Bd s M) (k:Bd t N) (hM:M+N<=4503599627370496) (hp:0<=M/\0<=N):
  Bd (addS s.lo s.hi t.lo t.hi) (M+N)/\(addS s.lo s.hi t.lo t.hi).lo=s.lo+t.lo/\(addS s.lo s.hi t.lo t.hi).hi=s.hi+t.hi:=by
 obtain ⟨_,a1,a2,a3⟩:=h
 obtain ⟨_,b1,b2,b3⟩:=k
 unfold addS both toldS
 rw [okSp_iff.2 (by omega),okSp_iff.2 (by omega),okF_iff.2 (by omega),okF_iff.2 (by omega)]
 exact ⟨⟨rfl,show -(M+N)<=s.lo+t.lo by omega,show s.lo+t.lo<=s.hi+t.hi by omega,show s.hi+t.hi<=M+N by omega⟩,rfl,rfl⟩
theorem sub_op {s t:Sp} {M N:Int} (h:Bd s M) (k:Bd t N) (hM:M+N<=4503599627370496) (hp:0<=M/\0<=N):
  Bd (subS s.lo s.hi t.lo t.hi) (M+N)/\(subS s.lo s.hi t.lo t.hi).lo=s.lo - t.hi/\(subS s.lo s.hi t.lo t.hi).hi=s.hi - t.lo:=by
 obtain ⟨_,a1,a2,a3⟩:=h
 obtain ⟨_,b1,b2,b3⟩:=k
 unfold subS both toldS
 rw [okSp_iff.2 (by omega),okSp_iff.2 (by omega),okF_iff.2 (by omega),okF_iff.2 (by omega)]
 exact ⟨⟨rfl,show -(M+N)<=s.lo - t.hi by omega,show s.lo - t.hi<=s.hi - t.lo by omega,show s.hi - t.lo<=M+N by omega⟩,rfl,rfl⟩
theorem add_en {s t r:Sp} {N N' D:Int} (h:En s N D) (k:En t N' D) (e1:r.lo=s.lo+t.lo) (e2:r.hi=s.hi+t.hi):En r (N+N') D:=by
 obtain ⟨a,b⟩:=h; obtain ⟨c,d⟩:=k
 constructor
 .rw [e1,Int.add_mul]; omega
 .rw [e2,Int.add_mul]; omega
theorem sub_en {s t r:Sp} {N N' D:Int} (h:En s N D) (k:En t N' D) (e1:r.lo=s.lo - t.hi) (e2:r.hi=s.hi - t.lo):En r (N - N') D:=by
 obtain ⟨a,b⟩:=h; obtain ⟨c,d⟩:=k
 constructor
 .rw [e1,Int.sub_mul]; omega
 .rw [e2,Int.sub_mul]; omega
theorem sqr_pt {n:Int} (hn:-32768<=n/\n<=32767):sqrS (n*16777216) (n*16777216)=⟨n*n*65536,n*n*65536,0⟩:=by
 have q:=mul_bd (a:=n) (n:=n) (M:=32768) (L:=32768) (by omega) (by omega) (by omega) (by omega)
 have q0:0<=n*n:=by
  rcases Int.le_total 0 n with c|c
  .exact Int.mul_nonneg c c
  .exact Int.mul_nonneg_of_nonpos_of_nonpos c c
 have h1:=le_mx (n*16777216) (-(n*16777216))
 have h2:=le_mx (mx (n*16777216) (-(n*16777216))) 0
 have e:∀ v:Int,v=n*16777216\/v=-(n*16777216)->v*v=n*n*65536*4294967296:=by
  rintro v (rfl|rfl) <;> grind
 have eL:abL (n*16777216) (n*16777216)*abL (n*16777216) (n*16777216)=n*n*65536*4294967296:=e _ (by unfold abL; omega)
 have eH:abH (n*16777216) (n*16777216)*abH (n*16777216) (n*16777216)=n*n*65536*4294967296:=e _ (by unfold abH; omega)
 unfold sqrS
 rw [okSp_iff.2 (by omega),eL,eH,cond_true]
 have r1:rd (n*n*65536*4294967296) 4294967296 false=n*n*65536:=Int.mul_ediv_cancel _ (by decide)
 have r2:rd (n*n*65536*4294967296) 4294967296 true=n*n*65536:=by
  show -(-(n*n*65536*4294967296) / 4294967296)=_
  rw [<- Int.neg_mul,Int.mul_ediv_cancel _ (by decide),Int.neg_neg]
 rw [r1,r2]
 unfold toldS
 rw [okF_iff.2 (by omega)]
 rfl
theorem le_of_sq {a b:Int} (hb:0<=b) (h:a*a<=b*b):a<=b:=by
 rcases Int.lt_or_le b a with c|c
 .have:=Int.mul_le_mul (show b+1<=a by omega) (show b+1<=a by omega) (show 0<=b+1 by omega) (show 0<=a by omega)
  rw [Int.add_mul,Int.mul_add] at this
  omega
 .exact c
theorem lt_of_sq {a b:Int} (hb:0<=b) (h:a*a<b*b):a<b:=by
 rcases Int.lt_or_le a b with c|c
 .exact c
 .have:=Int.mul_le_mul c c hb (Int.le_trans hb c)
  omega
theorem rtV_t {a:Int} (h:sqOk a=true):0<=rtV a true/\a*4294967296<=rtV a true*rtV a true/\(rtV a true=sqR a\/rtV a true=sqR a+1/\sqR a*sqR a<a*4294967296):=by
 obtain ⟨q0,q1,q2,_⟩:=sqR_spec h
 unfold rtV
 cases hh:sqR a*sqR a==a*4294967296 with
 | true=>
  have:=of_decide_eq_true (show decide (sqR a*sqR a=a*4294967296)=true from hh)
  exact ⟨q0,by show _<=sqR a*sqR a; omega,.inl rfl⟩
 | false=>
  have:=of_decide_eq_false (show decide (sqR a*sqR a=a*4294967296)=false from hh)
  exact ⟨by show 0<=sqR a+1; omega,by show _<=(sqR a+1)*(sqR a+1); omega,.inr ⟨rfl,by omega⟩⟩
theorem sqrt_op {s:Sp} {M K:Int} (h:Bd s M) (h0:0<=s.lo) (hM:M<=4503599627370496) (hK:0<=K/\M*4294967296<=K*K):
  Bd (sqrtS s.lo s.hi) K/\(sqrtS s.lo s.hi).lo*(sqrtS s.lo s.hi).lo<=s.lo*4294967296/\s.hi*4294967296<=(sqrtS s.lo s.hi).hi*(sqrtS s.lo s.hi).hi/\0<=(sqrtS s.lo s.hi).lo /\
  s.lo*4294967296<((sqrtS s.lo s.hi).lo+1)*((sqrtS s.lo s.hi).lo+1):=by
 obtain ⟨_,a1,a2,a3⟩:=h
 have s1:sqOk s.lo=true:=by unfold sqOk; rw [okF_iff.2 (by omega)]; simpa using h0
 have s2:sqOk s.hi=true:=by unfold sqOk; rw [okF_iff.2 (by omega)]; simpa using (show 0<=s.hi by omega)
 obtain ⟨u0,u1,u2,_⟩:=sqR_spec s1
 obtain ⟨v0,v1,v2,_⟩:=sqR_spec s2
 obtain ⟨w0,w1,w2⟩:=rtV_t s2
 unfold sqrtS
 rw [okSp_iff.2 (by omega),decide_eq_false (show ¬ s.lo<0 by omega),cond_true,cond_false]
 have f:rtV s.lo false=sqR s.lo:=rfl
 rw [f]
 have i1:sqR s.lo<=rtV s.hi true:=le_of_sq w0 (by omega)
 have i2:rtV s.hi true<=K:=by
  rcases w2 with w2|⟨w2,w3⟩
  .rw [w2]; exact le_of_sq hK.1 (by omega)
  .have:=lt_of_sq (a:=sqR s.hi) hK.1 (by omega)
   omega
 exact ⟨⟨rfl,show -K<=sqR s.lo by omega,i1,i2⟩,u1,w1,u0,u2⟩
end Go.Rd
namespace Go.Rd
open Go Go.Eng Go.Ar
theorem mn4 (p q r s:Int):mn (mn (mn p q) r) s<=p/\mn (mn (mn p q) r) s<=q/\mn (mn (mn p q) r) s<=r/\mn (mn (mn p q) r) s<=s/\(∀ m,m<=p->m<=q->m<=r->m<=s->m<=mn (mn (mn p q) r) s):=by
 have h1:=mn_le p q
 have h2:=mn_le (mn p q) r
 have h3:=mn_le (mn (mn p q) r) s
 refine ⟨by omega,by omega,by omega,by omega,fun m _ _ _ _=>by omega⟩
theorem mx4 (p q r s:Int):p<=mx (mx (mx p q) r) s/\q<=mx (mx (mx p q) r) s/\r<=mx (mx (mx p q) r) s/\s<=mx (mx (mx p q) r) s/\(∀ m,p<=m->q<=m->r<=m->s<=m->mx (mx (mx p q) r) s<=m):=by
 have h1:=le_mx p q
 have h2:=le_mx (mx p q) r
 have h3:=le_mx (mx (mx p q) r) s
 refine ⟨by omega,by omega,by omega,by omega,fun m _ _ _ _=>by omega⟩
theorem hull_op {F:Int->Int->Bool->Int} {a b c d M':Int} (hM':M'<=4503599627370496)
  (hl:∀ x y,(x=a\/x=b)->(y=c\/y=d)->-M'<=F x y false/\F x y false<=F x y true/\F x y true<=M'):
  Bd (hull4 F a b c d) M'/\∀ x y,(x=a\/x=b)->(y=c\/y=d)->(hull4 F a b c d).lo<=F x y false/\F x y true<=(hull4 F a b c d).hi:=by
 have h1:=hl a c (.inl rfl) (.inl rfl)
 have h2:=hl a d (.inl rfl) (.inr rfl)
 have h3:=hl b c (.inr rfl) (.inl rfl)
 have h4:=hl b d (.inr rfl) (.inr rfl)
 unfold hull4
 obtain ⟨m1,m2,m3,m4,m5⟩:=mn4 (F a c false) (F a d false) (F b c false) (F b d false)
 obtain ⟨k1,k2,k3,k4,k5⟩:=mx4 (F a c true) (F a d true) (F b c true) (F b d true)
 have l:=m5 (-M') h1.1 h2.1 h3.1 h4.1
 have u:=k5 M' h1.2.2 h2.2.2 h3.2.2 h4.2.2
 generalize mn (mn (mn (F a c false) (F a d false)) (F b c false)) (F b d false)=lo at *
 generalize mx (mx (mx (F a c true) (F a d true)) (F b c true)) (F b d true)=hi at *
 unfold toldS
 rw [okF_iff.2 (by omega),okF_iff.2 (by omega)]
 refine ⟨⟨rfl,l,show lo<=hi by omega,u⟩,?_⟩
 rintro x y (rfl|rfl) (rfl|rfl)
 .exact ⟨m1,k1⟩
 .exact ⟨m2,k2⟩
 .exact ⟨m3,k3⟩
 .exact ⟨m4,k4⟩
theorem div_op {s t:Sp} {M N M' c:Int} (h:Bd s M) (k:Bd t N) (hM:M<=4503599627370496) (hN:N<=4503599627370496) (hM':M'<=4503599627370496) (hc:0<c/\c<=t.lo)
  (hb:M*4294967296<=M'*c) (h0:0<=M'):
  Bd (divS s.lo s.hi t.lo t.hi) M'/\∀ x y,(x=s.lo\/x=s.hi)->(y=t.lo\/y=t.hi)->(divS s.lo s.hi t.lo t.hi).lo*y<=x*4294967296/\x*4294967296<=(divS s.lo s.hi t.lo t.hi).hi*y:=by
 obtain ⟨_,a1,a2,a3⟩:=h
 obtain ⟨_,b1,b2,b3⟩:=k
 have e:divS s.lo s.hi t.lo t.hi=hull4 dF s.lo s.hi t.lo t.hi:=by
  unfold divS both
  rw [okSp_iff.2 (by omega),okSp_iff.2 (by omega),decide_eq_false (show ¬ t.lo<=0 by omega)]
  rfl
 rw [e]
 have dd:∀ x y up,(y=t.lo\/y=t.hi)->dF x y up=rd (x*4294967296) y up:=fun x y up hy=>by
  unfold dF sg
  rw [decide_eq_false (show ¬ y<0 by omega)]
  rfl
 obtain ⟨q1,q2⟩:=hull_op (F:=dF) (a:=s.lo) (b:=s.hi) (c:=t.lo) (d:=t.hi) hM' fun x y hx hy=>by
  rw [dd x y false hy,dd x y true hy]
  have hy':c<=y:=by omega
  have:=Int.mul_le_mul_of_nonneg_left hy' h0
  exact ⟨le_rd_of (by omega) (by rw [Int.neg_mul]; omega),rd_le _ _ (by omega),rd_le_of (by omega) (by omega)⟩
 refine ⟨q1,fun x y hx hy=>?_⟩
 have:=q2 x y hx hy
 rw [dd x y false hy,dd x y true hy] at this
 have hy':0<=y:=by omega
 have f:=rd_f (n:=x*4294967296) (d:=y) (by omega)
 have g:=rd_t (n:=x*4294967296) (d:=y) (by omega)
 have m1:=Int.mul_le_mul_of_nonneg_right this.1 hy'
 have m2:=Int.mul_le_mul_of_nonneg_right this.2 hy'
 omega
end Go.Rd
namespace Go.Rd
open Go Go.Eng Go.Ar
theorem cc_eq {c:Int} (h:-32768<=c/\c<=32767):cc c=1000*c:=by
 unfold cc; rw [i64w (n:=c) (by omega) (by omega),i64w (by omega) (by omega)]
theorem pp_eq {c:Int} (h:-32768<=c/\c<=32767):pp c=c*16777216:=by
 unfold pp; rw [i64w (n:=c) (by omega) (by omega),i64w (by omega) (by omega)]
theorem tm_range (k:Int):-2999<=k.tmod 3000/\k.tmod 3000<=2999:=by
 have h1:=Int.tmod_lt_of_pos k (show (0:Int)<3000 by decide)
 have h2:=Int.tmod_lt_of_pos (-k) (show (0:Int)<3000 by decide)
 rw [Int.neg_tmod] at h2
 omega
theorem kk_range (k:Int):-2999000<=kk k/\kk k<=2999000:=by
 have h:=tm_range k
 unfold kk; rw [i64w (n:=k.tmod 3000) (by omega) (by omega),i64w (by omega) (by omega)]
 omega
structure Nums (C K x y:Int):Prop where
 c1:-32768000<=C
 c2:C<=32768000
 k1:-2999000<=K
 k2:K<=2999000
 x1:-32768<=x
 x2:x<=32767
 y1:-32768<=y
 y2:y<=32767
theorem sq_bd {x:Int} (h:-32768<=x/\x<=32767):0<=x*x*65536/\x*x*65536<=70368744177664:=by
 have q:=mul_bd (a:=x) (n:=x) (M:=32768) (L:=32768) (by omega) (by omega) (by omega) (by omega)
 have q0:0<=x*x:=by
  rcases Int.le_total 0 x with c|c
  .exact Int.mul_nonneg c c
  .exact Int.mul_nonneg_of_nonpos_of_nonpos c c
 omega
theorem wrapG {C K x y:Int} (n:Nums C K x y):IntKind.i64.wrap (1000000+K)=1000000+K:=i64w (by have:=n.k1; omega) (by have:=n.k2; omega)
theorem okSpX {C K x y:Int} (n:Nums C K x y):okSp (x*16777216) (x*16777216)=true:=okSp_iff.2 (by have:=n.x1; have:=n.x2; omega)
theorem okSpY {C K x y:Int} (n:Nums C K x y):okSp (y*16777216) (y*16777216)=true:=okSp_iff.2 (by have:=n.y1; have:=n.y2; omega)
theorem okN {C K x y:Int} (n:Nums C K x y):okCK C K:=by have:=n.c1; have:=n.c2; have:=n.k1; have:=n.k2; exact ⟨by omega,by omega⟩
theorem S0 {C K x y:Int} (n:Nums C K x y):s0 C K (x*16777216) (x*16777216) (y*16777216) (y*16777216)=⟨x*x*65536,x*x*65536,0⟩:=sqr_pt ⟨n.x1,n.x2⟩
theorem S1 {C K x y:Int} (n:Nums C K x y):s1 C K (x*16777216) (x*16777216) (y*16777216) (y*16777216)=⟨y*y*65536,y*y*65536,0⟩:=sqr_pt ⟨n.y1,n.y2⟩
theorem S0b {C K x y:Int} (n:Nums C K x y):Bd (s0 C K (x*16777216) (x*16777216) (y*16777216) (y*16777216)) 70368744177664/\En (s0 C K (x*16777216) (x*16777216) (y*16777216) (y*16777216)) (x*x*65536) 1:=by
 have:=sq_bd ⟨n.x1,n.x2⟩
 rw [S0 n]
 exact ⟨⟨rfl,show -_<=x*x*65536 by omega,Int.le_refl _,this.2⟩,show x*x*65536*1<=_ by omega,show _<=x*x*65536*1 by omega⟩
theorem S1b {C K x y:Int} (n:Nums C K x y):Bd (s1 C K (x*16777216) (x*16777216) (y*16777216) (y*16777216)) 70368744177664/\En (s1 C K (x*16777216) (x*16777216) (y*16777216) (y*16777216)) (y*y*65536) 1:=by
 have:=sq_bd ⟨n.y1,n.y2⟩
 rw [S1 n]
 exact ⟨⟨rfl,show -_<=y*y*65536 by omega,Int.le_refl _,this.2⟩,show y*y*65536*1<=_ by omega,show _<=y*y*65536*1 by omega⟩
theorem S2 {C K x y:Int} (n:Nums C K x y):Bd (s2 C K (x*16777216) (x*16777216) (y*16777216) (y*16777216)) 140737488355328/\En (s2 C K (x*16777216) (x*16777216) (y*16777216) (y*16777216)) (x*x*65536+y*y*65536) 1:=by
 obtain ⟨a,b,c⟩:=add_op (S0b n).1 (S1b n).1 (by omega) (by omega)
 exact ⟨a,add_en (S0b n).2 (S1b n).2 b c⟩
theorem S3 {C K x y:Int} (n:Nums C K x y):Bd (s3 C K (x*16777216) (x*16777216) (y*16777216) (y*16777216)) 4611686018428/\En (s3 C K (x*16777216) (x*16777216) (y*16777216) (y*16777216)) ((x*x*65536+y*y*65536)*C) (1*1000000000):=by
 obtain ⟨a,b,c⟩:=scale_op (n:=C) (d:=1000000000) (L:=32768000) (M':=4611686018428) (S2 n).1 (by omega) ⟨n.c1,n.c2⟩ (by omega) (by omega) (by omega) (by omega) (by omega) (by omega)
 exact ⟨a,scale_en (by omega) (by omega) (S2 n).2 b c⟩
theorem S4 {C K x y:Int} (n:Nums C K x y):Bd (s4 C K (x*16777216) (x*16777216) (y*16777216) (y*16777216)) 151115727452/\En (s4 C K (x*16777216) (x*16777216) (y*16777216) (y*16777216)) ((x*x*65536+y*y*65536)*C*C) (1*1000000000*1000000000):=by
 obtain ⟨a,b,c⟩:=scale_op (n:=C) (d:=1000000000) (L:=32768000) (M':=151115727452) (S3 n).1 (by omega) ⟨n.c1,n.c2⟩ (by omega) (by omega) (by omega) (by omega) (by omega) (by omega)
 exact ⟨a,scale_en (by omega) (by omega) (S3 n).2 b c⟩
theorem S5 {C K x y:Int} (n:Nums C K x y):Bd (s5 C K (x*16777216) (x*16777216) (y*16777216) (y*16777216)) 604311794081/\En (s5 C K (x*16777216) (x*16777216) (y*16777216) (y*16777216)) ((x*x*65536+y*y*65536)*C*C*(1000000+K)) (1*1000000000*1000000000*1000000):=by
 have k1:=n.k1; have k2:=n.k2
 obtain ⟨a,b,c⟩:=scale_op (n:=1000000+K) (d:=1000000) (L:=3999000) (M':=604311794081) (S4 n).1 (by omega) (by omega) (by omega) (by omega) (by omega) (by omega) (by omega) (by omega)
 have e:s5 C K (x*16777216) (x*16777216) (y*16777216) (y*16777216)=xScaleS (s4 C K (x*16777216) (x*16777216) (y*16777216) (y*16777216)).lo (s4 C K (x*16777216) (x*16777216) (y*16777216) (y*16777216)).hi (1000000+K) 1000000:=by
  show xScaleS _ _ (IntKind.i64.wrap (1000000+K)) _=_; rw [wrapG n]
 rw [e]
 exact ⟨a,scale_en (by omega) (by omega) (S4 n).2 b c⟩
def oneS:Sp:=⟨4294967296,4294967296,0⟩
theorem one_bd:Bd oneS 4294967296:=⟨rfl,by decide,by decide,by decide⟩
theorem one_en (D:Int):En oneS (4294967296*D) D:=⟨Int.le_refl _,Int.le_refl _⟩
theorem S6 {C K x y:Int} (n:Nums C K x y):Bd (s6 C K (x*16777216) (x*16777216) (y*16777216) (y*16777216)) 608606761377/\En (s6 C K (x*16777216) (x*16777216) (y*16777216) (y*16777216)) (4294967296*(1*1000000000*1000000000*1000000) - (x*x*65536+y*y*65536)*C*C*(1000000+K)) (1*1000000000*1000000000*1000000):=by
 obtain ⟨a,b,c⟩:=sub_op one_bd (S5 n).1 (by omega) (by omega)
 exact ⟨a,sub_en (one_en _) (S5 n).2 b c⟩
end Go.Rd
namespace Go.Rd
open Go Go.Eng Go.Ar
theorem S8 {C K x y:Int} (n:Nums C K x y):Bd (s8 C K (x*16777216) (x*16777216) (y*16777216) (y*16777216)) 4611686018428/\En (s8 C K (x*16777216) (x*16777216) (y*16777216) (y*16777216)) ((x*x*65536+y*y*65536)*C) (1*1000000000):=by
 have z:Bd (⟨0,0,0⟩:Sp) 0:=⟨rfl,by decide,by decide,by decide⟩
 obtain ⟨a,b,c⟩:=add_op (S3 n).1 z (by omega) (by omega)
 have:=add_en (N':=0) (S3 n).2 (t:=⟨0,0,0⟩) ⟨by show (0:Int)*_<=0; omega,by show (0:Int)<=0*_; omega⟩ b c
 rw [Int.add_zero] at this
 exact ⟨a,this⟩
theorem outS {C K x y:Int} (n:Nums C K x y) (h:(s6 C K (x*16777216) (x*16777216) (y*16777216) (y*16777216)).lo<=0):PsagSF C K (x*16777216) (x*16777216) (y*16777216) (y*16777216):=
 ⟨okN n,okSpX n,okSpY n,(S0b n).1.e,(S1b n).1.e,(S2 n).1.e,(S3 n).1.e,(S4 n).1.e,(S5 n).1.e,(S6 n).1.e,decide_eq_true h⟩
end Go.Rd
namespace Go.Rd
open Go Go.Eng Go.Ar
theorem S7 {C K x y:Int} (n:Nums C K x y) (h:0<(s6 C K (x*16777216) (x*16777216) (y*16777216) (y*16777216)).lo):Bd (s7 C K (x*16777216) (x*16777216) (y*16777216) (y*16777216)) 68719476736/\65536<=(s7 C K (x*16777216) (x*16777216) (y*16777216) (y*16777216)).lo/\(s7 C K (x*16777216) (x*16777216) (y*16777216) (y*16777216)).lo*(s7 C K (x*16777216) (x*16777216) (y*16777216) (y*16777216)).lo<=(s6 C K (x*16777216) (x*16777216) (y*16777216) (y*16777216)).lo*4294967296/\(s6 C K (x*16777216) (x*16777216) (y*16777216) (y*16777216)).hi*4294967296<=(s7 C K (x*16777216) (x*16777216) (y*16777216) (y*16777216)).hi*(s7 C K (x*16777216) (x*16777216) (y*16777216) (y*16777216)).hi:=by
 obtain ⟨a,b,c,d,e⟩:=sqrt_op (K:=68719476736) (S6 n).1 (by omega) (by omega) (by omega)
 refine ⟨a,?_,b,c⟩
 have:=lt_of_sq (a:=65536) (b:=(s7 C K (x*16777216) (x*16777216) (y*16777216) (y*16777216)).lo+1) (by show 0<=(sqrtS (s6 C K (x*16777216) (x*16777216) (y*16777216) (y*16777216)).lo (s6 C K (x*16777216) (x*16777216) (y*16777216) (y*16777216)).hi).lo+1; omega) (by
  refine Int.lt_of_le_of_lt ?_ e
  omega)
 omega
theorem S9 {C K x y:Int} (n:Nums C K x y) (h:0<(s6 C K (x*16777216) (x*16777216) (y*16777216) (y*16777216)).lo):Bd (s9 C K (x*16777216) (x*16777216) (y*16777216) (y*16777216)) (4294967296+68719476736)/\(s9 C K (x*16777216) (x*16777216) (y*16777216) (y*16777216)).lo=4294967296+(s7 C K (x*16777216) (x*16777216) (y*16777216) (y*16777216)).lo/\(s9 C K (x*16777216) (x*16777216) (y*16777216) (y*16777216)).hi=4294967296+(s7 C K (x*16777216) (x*16777216) (y*16777216) (y*16777216)).hi:=
 add_op one_bd (S7 n h).1 (by omega) (by omega)
theorem S10 {C K x y:Int} (n:Nums C K x y) (h:0<(s6 C K (x*16777216) (x*16777216) (y*16777216) (y*16777216)).lo):Bd (s10 C K (x*16777216) (x*16777216) (y*16777216) (y*16777216)) 4611686018428/\∀ p q,(p=(s8 C K (x*16777216) (x*16777216) (y*16777216) (y*16777216)).lo\/p=(s8 C K (x*16777216) (x*16777216) (y*16777216) (y*16777216)).hi)->(q=(s9 C K (x*16777216) (x*16777216) (y*16777216) (y*16777216)).lo\/q=(s9 C K (x*16777216) (x*16777216) (y*16777216) (y*16777216)).hi)->(s10 C K (x*16777216) (x*16777216) (y*16777216) (y*16777216)).lo*q<=p*4294967296/\p*4294967296<=(s10 C K (x*16777216) (x*16777216) (y*16777216) (y*16777216)).hi*q:=
 div_op (c:=4295032832) (M':=4611686018428) (S8 n).1 (S9 n h).1 (by omega) (by omega) (by omega) (by have:=(S9 n h).2.1; have:=(S7 n h).2.1; omega) (by omega) (by omega)
theorem ptX {C K x y:Int} (n:Nums C K x y) {w:Int} (h:-32768<=w/\w<=32767):Bd (⟨(w*16777216),(w*16777216),0⟩:Sp) 549755813888/\En (⟨(w*16777216),(w*16777216),0⟩:Sp) (w*16777216) 1:=
 ⟨⟨rfl,show -549755813888<=(w*16777216) by omega,Int.le_refl _,show (w*16777216)<=549755813888 by omega⟩,show (w*16777216)*1<=(w*16777216) by omega,show (w*16777216)<=(w*16777216)*1 by omega⟩
theorem Hs {C K x y:Int} (n:Nums C K x y) {w:Int} (h:-32768<=w/\w<=32767):Bd (xScaleS (w*16777216) (w*16777216) C 1000000000) 18014398510/\En (xScaleS (w*16777216) (w*16777216) C 1000000000) ((w*16777216)*C) (1*1000000000):=by
 obtain ⟨a,b,c⟩:=scale_op (n:=C) (d:=1000000000) (L:=32768000) (M':=18014398510) (ptX n h).1 (by omega) ⟨n.c1,n.c2⟩ (by omega) (by omega) (by omega) (by omega) (by omega) (by omega)
 exact ⟨a,scale_en (by omega) (by omega) (ptX n h).2 b c⟩
theorem S14 {C K x y:Int} (n:Nums C K x y) (h:0<(s6 C K (x*16777216) (x*16777216) (y*16777216) (y*16777216)).lo):Bd (s14 C K (x*16777216) (x*16777216) (y*16777216) (y*16777216)) 1180591620751360/\∀ p q,(p=(s13 C K (x*16777216) (x*16777216) (y*16777216) (y*16777216)).lo\/p=(s13 C K (x*16777216) (x*16777216) (y*16777216) (y*16777216)).hi)->(q=(s7 C K (x*16777216) (x*16777216) (y*16777216) (y*16777216)).lo\/q=(s7 C K (x*16777216) (x*16777216) (y*16777216) (y*16777216)).hi)->(s14 C K (x*16777216) (x*16777216) (y*16777216) (y*16777216)).lo*q<=p*4294967296/\p*4294967296<=(s14 C K (x*16777216) (x*16777216) (y*16777216) (y*16777216)).hi*q:=
 div_op (c:=65536) (M':=1180591620751360) (Hs n ⟨n.x1,n.x2⟩).1 (S7 n h).1 (by omega) (by omega) (by omega) ⟨by omega,(S7 n h).2.1⟩ (by omega) (by omega)
theorem S12 {C K x y:Int} (n:Nums C K x y) (h:0<(s6 C K (x*16777216) (x*16777216) (y*16777216) (y*16777216)).lo):Bd (s12 C K (x*16777216) (x*16777216) (y*16777216) (y*16777216)) 1180591620751360/\∀ p q,(p=(s11 C K (x*16777216) (x*16777216) (y*16777216) (y*16777216)).lo\/p=(s11 C K (x*16777216) (x*16777216) (y*16777216) (y*16777216)).hi)->(q=(s7 C K (x*16777216) (x*16777216) (y*16777216) (y*16777216)).lo\/q=(s7 C K (x*16777216) (x*16777216) (y*16777216) (y*16777216)).hi)->(s12 C K (x*16777216) (x*16777216) (y*16777216) (y*16777216)).lo*q<=p*4294967296/\p*4294967296<=(s12 C K (x*16777216) (x*16777216) (y*16777216) (y*16777216)).hi*q:=
 div_op (c:=65536) (M':=1180591620751360) (Hs n ⟨n.y1,n.y2⟩).1 (S7 n h).1 (by omega) (by omega) (by omega) ⟨by omega,(S7 n h).2.1⟩ (by omega) (by omega)
theorem inS {C K x y:Int} (n:Nums C K x y) (h:0<(s6 C K (x*16777216) (x*16777216) (y*16777216) (y*16777216)).lo):PsagSG C K (x*16777216) (x*16777216) (y*16777216) (y*16777216)/\PslopeS C K (x*16777216) (x*16777216) (y*16777216) (y*16777216):=
 have d:decide ((s6 C K (x*16777216) (x*16777216) (y*16777216) (y*16777216)).lo<=0)=false:=decide_eq_false (by omega)
 ⟨⟨okN n,okSpX n,okSpY n,(S0b n).1.e,(S1b n).1.e,(S2 n).1.e,(S3 n).1.e,(S4 n).1.e,(S5 n).1.e,(S6 n).1.e,d,(S7 n h).1.e,(S8 n).1.e,(S9 n h).1.e,(S10 n h).1.e⟩,
  ⟨okN n,okSpX n,okSpY n,(S0b n).1.e,(S1b n).1.e,(S2 n).1.e,(S3 n).1.e,(S4 n).1.e,(S5 n).1.e,(S6 n).1.e,d,(S7 n h).1.e,(S8 n).1.e,(S9 n h).1.e,(S10 n h).1.e,(Hs n ⟨n.x1,n.x2⟩).1.e,(S14 n h).1.e,(Hs n ⟨n.y1,n.y2⟩).1.e,(S12 n h).1.e⟩⟩
end Go.Rd
namespace Go.Rd
open Go Go.Eng Go.Ar
structure Wi (s t:Sp):Prop where
 lo:t.lo<=s.lo
 le:s.lo<=s.hi
 hi:s.hi<=t.hi
structure Ri (s:Sp):Prop where
 lo:-4503599627370496<=s.lo
 le:s.lo<=s.hi
 hi:s.hi<=4503599627370496
theorem Ri.ok {s:Sp} (h:Ri s):okSp s.lo s.hi=true:=okSp_iff.2 ⟨h.lo,h.le,h.hi⟩
theorem Wi.at {s t:Sp} (w:Wi s t) {x:Int} (h:x=s.lo\/x=s.hi):t.lo<=x/\x<=t.hi:=by
 obtain ⟨w1,w2,w3⟩:=w
 omega
end Go.Rd
namespace Go.Co
open Go Go.Ar Go.Rd
section
variable {C K x y:Int}
def rE (x y:Int):Int:=x*x*65536+y*y*65536
def lA (C K x y:Int):Int:=4294967296*1000000000000000000000000 - rE x y*C*C*(1000000+K)
end
end Go.Co
namespace Go.Co
open Go Go.Ar Go.Rd
theorem cancelU {a b:Int} (h:4294967296*a<=4294967296*b):a<=b:=by omega
section
variable {C K x y:Int}
theorem root_A (n:Nums C K x y) (h:0<(s6 C K (x*16777216) (x*16777216) (y*16777216) (y*16777216)).lo):(s7 C K (x*16777216) (x*16777216) (y*16777216) (y*16777216)).lo*(s7 C K (x*16777216) (x*16777216) (y*16777216) (y*16777216)).lo*1000000000000000000000000<=lA C K x y*4294967296/\lA C K x y*4294967296<=(s7 C K (x*16777216) (x*16777216) (y*16777216) (y*16777216)).hi*(s7 C K (x*16777216) (x*16777216) (y*16777216) (y*16777216)).hi*1000000000000000000000000:=by
 obtain ⟨a,b,c,d⟩:=S7 n h
 obtain ⟨w1,w2⟩:=(S6 n).2
 have w1:(s6 C K (x*16777216) (x*16777216) (y*16777216) (y*16777216)).lo*(1*1000000000*1000000000*1000000)<=lA C K x y:=w1
 have w2:lA C K x y<=(s6 C K (x*16777216) (x*16777216) (y*16777216) (y*16777216)).hi*(1*1000000000*1000000000*1000000):=w2
 generalize (s7 C K (x*16777216) (x*16777216) (y*16777216) (y*16777216)).lo*(s7 C K (x*16777216) (x*16777216) (y*16777216) (y*16777216)).lo=Y at *
 generalize (s7 C K (x*16777216) (x*16777216) (y*16777216) (y*16777216)).hi*(s7 C K (x*16777216) (x*16777216) (y*16777216) (y*16777216)).hi=Z at *
 omega
end
end Go.Co
namespace Go.Co
open Go Go.Ar Go.Rd
theorem sq_neg (a:Int):-a * -a=a*a:=by grind
section
variable {C K x y:Int}
end
end Go.Co
namespace Go.Co
open Go Go.Eng Go.Ar Go.Rd Go.Dg
def Sz (k:Nat) (x:Rat):Prop:=(x.num.natAbs:Int)<pw k/\(x.den:Int)<pw k
theorem Sz.mono {k l:Nat} {x:Rat} (h:Sz k x) (hk:k<=l):Sz l x:=by
 have:=pw_mono hk
 exact ⟨by have:=h.1; omega,by have:=h.2; omega⟩
theorem qN_eq (X:Rat):qN X=X:=qIn_q X
theorem sz_div {k:Nat} {a b:Int} (hb:0<b) (h1:(a.natAbs:Int)<pw k) (h2:b<pw k):Sz k (Rat.divInt a b):=by
 constructor
 .rw [Rat.num_divInt,Int.sign_eq_one_of_pos hb,Int.one_mul]
  have:(a / ((Int.gcd b a:Nat):Int)).natAbs<=a.natAbs:=by
   rw [Int.natAbs_ediv_of_dvd (Int.gcd_dvd_right ..)]
   exact Nat.div_le_self ..
  omega
 .rw [Rat.den_divInt,if_neg (by omega)]
  have:b.natAbs / Int.gcd b a<=b.natAbs:=Nat.div_le_self ..
  omega
theorem sz_mul {k l:Nat} {x y:Rat} (hx:Sz k x) (hy:Sz l y):Sz (k+l) (x*y):=by
 rw [<- Rat.num_divInt_den x,<- Rat.num_divInt_den y,<- mul_eq]
 have h1:=x.den_nz
 have h2:=y.den_nz
 refine sz_div (Int.mul_pos (by omega) (by omega)) (mul_len hx.1 hy.1) ?_
 have:=mul_len (x:=(x.den:Int)) (y:=(y.den:Int)) (k:=k) (l:=l) (by have:=hx.2; omega) (by have:=hy.2; omega)
 have h3:0<(x.den:Int)*y.den:=Int.mul_pos (by omega) (by omega)
 omega
theorem sz_add {k l:Nat} {x y:Rat} (hx:Sz k x) (hy:Sz l y):Sz (k+l+1) (x+y):=by
 have h1:=x.den_nz
 have h2:=y.den_nz
 rw [<- Rat.num_divInt_den x,<- Rat.num_divInt_den y,<- add_eq (by omega) (by omega)]
 have m1:=mul_len (x:=x.num) (y:=(y.den:Int)) (k:=k) (l:=l) hx.1 (by have:=hy.2; omega)
 have m2:=mul_len (x:=y.num) (y:=(x.den:Int)) (k:=l) (l:=k) hy.1 (by have:=hx.2; omega)
 have m3:=mul_len (x:=(x.den:Int)) (y:=(y.den:Int)) (k:=k) (l:=l) (by have:=hx.2; omega) (by have:=hy.2; omega)
 have h3:0<(x.den:Int)*y.den:=Int.mul_pos (by omega) (by omega)
 rw [Nat.add_comm l k] at m2
 have t:=pw_two (k+l)
 exact sz_div h3 (by omega) (by omega)
theorem sz_neg {k:Nat} {x:Rat} (hx:Sz k x):Sz k (-x):=by
 have h1:(-x).num=-x.num:=rfl
 have h2:(-x).den=x.den:=rfl
 exact ⟨by rw [h1,Int.natAbs_neg]; exact hx.1,by rw [h2]; exact hx.2⟩
theorem sz_sub {k l:Nat} {x y:Rat} (hx:Sz k x) (hy:Sz l y):Sz (k+l+1) (x - y):=by
 rw [Rat.sub_eq_add_neg]
 exact sz_add hx (sz_neg hy)
theorem pw3:pw 3=1000000000000000000000000000:=by decide
theorem sz_3 {a b:Int} (hb:0<b) (h1:a.natAbs<=9223372036854775808) (h2:b<=9223372036854775808):Sz 3 (Rat.divInt a b):=sz_div hb (by rw [pw3]; omega) (by rw [pw3]; omega)
theorem ofC_of {a b:Int} (hb:0<b) (h1:a.natAbs<=9223372036854775808) (h2:b<=9223372036854775808):ofC a b:=⟨h1,by omega,by omega⟩
theorem Sz.q {k:Nat} {x:Rat} (h:Sz k x) (hk:k<=600):SzQ x:=h.mono hk
theorem Sz.ok {k:Nat} {x:Rat} (h:Sz k x) (hk:k<=600):okF x:=okQ_q (h.q hk)
theorem Sz.g {k:Nat} {x:Rat} (h:Sz k x) (hk:k<=600):gN x:=⟨⟨rfl,rfl⟩,h.ok hk⟩
theorem e4_all (X:Rat):e4 X:=⟨rfl,rfl,rfl,rfl⟩
theorem two_of {k l m:Nat} {X Y Z:Rat} (hX:Sz k X) (hY:Sz l Y) (hZ:Sz m Z) (hk:k<=600) (hl:l<=600) (hm:m<=600):two X Y Z:=⟨⟨⟨rfl,rfl⟩,rfl,rfl⟩,hX.ok hk,hY.ok hl,hZ.q hm⟩
theorem mulN_of {k l:Nat} {X Y:Rat} (hX:Sz k X) (hY:Sz l Y) (h:k+l<=600):mulN X Y:=by
 refine two_of hX hY (m:=k+l) ?_ (by omega) (by omega) h
 rw [qN_eq,qN_eq]; exact sz_mul hX hY
theorem addN_of {k l:Nat} {X Y:Rat} (hX:Sz k X) (hY:Sz l Y) (h:k+l+1<=600):addN X Y:=by
 refine two_of hX hY (m:=k+l+1) ?_ (by omega) (by omega) h
 rw [qN_eq,qN_eq]; exact sz_add hX hY
theorem subN_of {k l:Nat} {X Y:Rat} (hX:Sz k X) (hY:Sz l Y) (h:k+l+1<=600):subN X Y:=by
 refine two_of hX hY (m:=k+l+1) ?_ (by omega) (by omega) h
 rw [qN_eq,qN_eq]; exact sz_sub hX hY
theorem szm {k l m:Nat} {x y:Rat} (hx:Sz k x) (hy:Sz l y) (e:k+l=m):Sz m (x*y):=e ▸ sz_mul hx hy
theorem sza {k l m:Nat} {x y:Rat} (hx:Sz k x) (hy:Sz l y) (e:k+l+1=m):Sz m (x+y):=e ▸ sz_add hx hy
theorem szs {k l m:Nat} {x y:Rat} (hx:Sz k x) (hy:Sz l y) (e:k+l+1=m):Sz m (x - y):=e ▸ sz_sub hx hy
theorem num_np {x:Rat}:x.num<=0 ↔ x<=0:=by
 have h:=@Rat.num_nonneg (-x)
 have e:(-x).num=-x.num:=rfl
 rw [e] at h
 constructor
 .intro h1; have:=h.1 (by omega); grind
 .intro h1; have:=h.2 (by grind); omega
theorem ord_np {x:Rat} (h:x<=0):ordR x<=0:=by
 have:=num_np.2 h
 unfold ordR
 split
 .omega
 .split <;> omega
theorem ord_nn {x:Rat} (h:0<=x):0<=ordR x:=by
 have:=Rat.num_nonneg.2 h
 unfold ordR
 split
 .omega
 .split <;> omega
theorem ord_p {x:Rat} (h:ordR x<=0):x<=0:=by
 apply num_np.1
 unfold ordR at h
 split at h
 .omega
 .split at h <;> omega
theorem np_of {x:Rat} {n p:Int} (hp:0<p) (h:x*(p:Rat)=(n:Rat)) (hn:n<=0):x<=0:=by
 have h1:(0:Rat)<(p:Rat):=by exact_mod_cast hp
 have h2:(n:Rat)<=0:=by exact_mod_cast hn
 rw [<- h] at h2
 by_cases h4:0<x
 .have:=Rat.mul_pos h4 h1
  grind
 .grind
theorem nn_of {x:Rat} {n p:Int} (hp:0<p) (h:x*(p:Rat)=(n:Rat)) (hn:0<=n):0<=x:=by
 have:=np_of (x:=-x) (n:=-n) hp (by push_cast; grind) (by omega)
 grind
structure Dr (c k x y:Int):Prop where
 c1:-32768<=c
 c2:c<=32767
 x1:-32768<=x
 x2:x<=32767
 y1:-32768<=y
 y2:y<=32767
section
variable {c k x y:Int}
theorem Dr.nums (d:Dr c k x y):Nums (cc c) (kk k) x y:=by
 have:=cc_eq ⟨d.c1,d.c2⟩
 have h1:=d.c1
 have h2:=d.c2
 have k1:=kk_range k
 exact ⟨by omega,by omega,k1.1,k1.2,d.x1,d.x2,d.y1,d.y2⟩
theorem wr {x:Int} (h1:-32768<=x) (h2:x<=32767):IntKind.i64.wrap x=x:=i64w (by omega) (by omega)
theorem gg_eq (k:Int):gg k=1000000+kk k:=by
 have:=kk_range k
 exact i64w (by omega) (by omega)
theorem szP (h1:-32768<=x) (h2:x<=32767):Sz 3 (fP x):=by
 unfold fP; rw [wr h1 h2]; exact sz_3 (by decide) (by omega) (by decide)
theorem szP2 (h1:-32768<=x) (h2:x<=32767):Sz 6 (fP2 x):=by
 unfold fP2; rw [qN_eq]; exact szm (szP h1 h2) (szP h1 h2) rfl
theorem szR (d:Dr c k x y):Sz 13 (fR x y):=by
 unfold fR; rw [qN_eq,qN_eq]; exact sza (szP2 d.x1 d.x2) (szP2 d.y1 d.y2) rfl
theorem szC (d:Dr c k x y):Sz 3 (fC c):=by
 have:=d.nums.c1
 have:=d.nums.c2
 exact sz_3 (by decide) (by omega) (by decide)
theorem szK (k:Int):Sz 3 (fK k):=by
 have:=kk_range k
 unfold fK; rw [gg_eq]; exact sz_3 (by decide) (by omega) (by decide)
theorem szC2 (d:Dr c k x y):Sz 6 (fC2 c):=by
 unfold fC2; rw [qN_eq]; exact szm (szC d) (szC d) rfl
theorem szH (d:Dr c k x y):Sz 19 (fH c x y):=by
 unfold fH; rw [qN_eq,qN_eq]; exact szm (szC2 d) (szR d) rfl
theorem szG (d:Dr c k x y):Sz 22 (fG c k x y):=by
 unfold fG; rw [qN_eq,qN_eq]; exact szm (szK k) (szH d) rfl
theorem szL (d:Dr c k x y):Sz 26 (fL c k x y):=by
 unfold fL; rw [qN_eq,qN_eq]; exact szs (sz_3 (by decide) (by decide) (by decide)) (szG d) rfl
theorem shape_n (d:Dr c k x y):shapeN c k x y:=by
 have hk:=kk_range k
 have n:=d.nums
 have c1:=n.c1
 have c2:=n.c2
 have x1:=d.x1
 have x2:=d.x2
 have y1:=d.y1
 have y2:=d.y2
 have P:=szP x1 x2
 have Q:=szP y1 y2
 refine ⟨⟨ofC_of (by decide) (by omega) (by decide),rfl,?_⟩,⟨?_,rfl,?_⟩,⟨mulN_of P P (by decide),⟨e4_all _,e4_all _⟩,mulN_of Q Q (by decide),addN_of (szP2 x1 x2) (szP2 y1 y2) (by decide)⟩,ofC_of (by decide) (by decide) (by decide),
  ⟨e4_all _,e4_all _,e4_all _,e4_all _,e4_all _,e4_all _,e4_all _⟩,mulN_of (szC d) (szC d) (by decide),⟨e4_all _,e4_all _,e4_all _,e4_all _,e4_all _⟩,mulN_of (szC2 d) (szR d) (by decide),⟨e4_all _,e4_all _,e4_all _,e4_all _⟩,mulN_of (szK k) (szH d) (by decide),
  ⟨e4_all _,e4_all _,e4_all _⟩,subN_of (sz_3 (by decide) (by decide) (by decide)) (szG d) (by decide),⟨e4_all _,e4_all _,e4_all _⟩,⟨e4_all _,e4_all _⟩,e4_all _⟩
 .rw [gg_eq]; exact ofC_of (by decide) (by omega) (by decide)
 .rw [wr x1 x2]; exact ofC_of (by decide) (by omega) (by decide)
 .rw [wr y1 y2]; exact ofC_of (by decide) (by omega) (by decide)
theorem fL_eq (d:Dr c k x y):fL c k x y*((4294967296*1000000000000000000000000:Int):Rat)=(lA (cc c) (kk k) x y:Rat):=by
 unfold fL fG fH fC2 fR fP2 fC fK fP lA rE
 simp only [qN_eq,Rat.divInt_eq_div,gg_eq,wr d.x1 d.x2,wr d.y1 d.y2]
 push_cast
 grind
theorem szV {v:Int} (h:v.natAbs<=9223372036854775808):Sz 3 (fV v):=sz_3 (by decide) h (by decide)
theorem szV2 {v:Int} (h:v.natAbs<=9223372036854775808):Sz 6 (fV2 v):=by
 unfold fV2; rw [qN_eq]; exact szm (szV h) (szV h) rfl
end
end Go.Co
namespace Go.Co
open Go Go.Eng Go.Ar Go.Rd Go.Dg
theorem sq_a {v w H A:Int} (h:v*w*1000000000*(v*w*1000000000)<=H*4294967296*(H*4294967296)) (hA:A*4294967296<=w*w*1000000000000000000000000):v*v*A<=H*H*4294967296*1000000:=by
 have hv:0<=v*v:=by
  rcases Int.le_total 0 v with h|h
  .exact Int.mul_nonneg h h
  .exact Int.mul_nonneg_of_nonpos_of_nonpos h h
 have h3:v*v*(A*4294967296)<=v*v*(w*w*1000000000000000000000000):=Int.mul_le_mul_of_nonneg_left hA hv
 apply cancelU
 have e1:4294967296*(v*v*A)=v*v*(A*4294967296):=by grind
 have e2:v*v*(w*w*1000000000000000000000000)=1000000*(v*w*1000000000*(v*w*1000000000)):=by grind
 have e3:4294967296*(H*H*4294967296*1000000)=1000000*(H*4294967296*(H*4294967296)):=by grind
 rw [e1,e3]
 rw [e2] at h3
 generalize v*w*1000000000*(v*w*1000000000)=Y at *
 generalize H*4294967296*(H*4294967296)=Z at *
 omega
theorem sq_b {v w H A:Int} (h:H*4294967296*(H*4294967296)<=v*w*1000000000*(v*w*1000000000)) (hA:w*w*1000000000000000000000000<=A*4294967296):H*H*4294967296*1000000<=v*v*A:=by
 have hv:0<=v*v:=by
  rcases Int.le_total 0 v with h|h
  .exact Int.mul_nonneg h h
  .exact Int.mul_nonneg_of_nonpos_of_nonpos h h
 have h3:v*v*(w*w*1000000000000000000000000)<=v*v*(A*4294967296):=Int.mul_le_mul_of_nonneg_left hA hv
 apply cancelU
 have e1:4294967296*(v*v*A)=v*v*(A*4294967296):=by grind
 have e2:v*v*(w*w*1000000000000000000000000)=1000000*(v*w*1000000000*(v*w*1000000000)):=by grind
 have e3:4294967296*(H*H*4294967296*1000000)=1000000*(H*4294967296*(H*4294967296)):=by grind
 rw [e1,e3]
 rw [e2] at h3
 generalize v*w*1000000000*(v*w*1000000000)=Y at *
 generalize H*4294967296*(H*4294967296)=Z at *
 omega
theorem sq_up {p q:Int} (h0:0<=p) (h:p<=q):p*p<=q*q:=Int.mul_le_mul h h h0 (by omega)
theorem sq_dn {p q:Int} (h0:p<=0) (h:q<=p):p*p<=q*q:=by
 have:=sq_up (p:=-p) (q:=-q) (by omega) (by omega)
 rw [sq_neg,sq_neg] at this; exact this
structure Sl (a b H hl hh rl rh A:Int):Prop where
 r0:0<rl
 rr:rl<=rh
 R1:rl*rl*1000000000000000000000000<=A*4294967296
 R2:A*4294967296<=rh*rh*1000000000000000000000000
 H1:hl*1000000000<=H
 H2:H<=hh*1000000000
 a1:a*rh<=hl*4294967296
 a2:a*rl<=hl*4294967296
 b1:hh*4294967296<=b*rl
 b2:hh*4294967296<=b*rh
section
variable {a b H hl hh rl rh A:Int}
theorem Sl.A0 (s:Sl a b H hl hh rl rh A):0<=A:=by
 have h1:=s.R1
 have h2:0<=rl*rl:=Int.mul_nonneg (Int.le_of_lt s.r0) (Int.le_of_lt s.r0)
 omega
theorem Sl.lo1 (s:Sl a b H hl hh rl rh A) (h:0<a):a*a*A<=H*H*4294967296*1000000:=by
 have h0:0<=a*rh:=Int.mul_nonneg (by omega) (by have:=s.r0; have:=s.rr; omega)
 have h1:=s.a1
 have h2:=s.H1
 exact sq_a (sq_up (by omega) (by omega)) s.R2
theorem Sl.lo2 (s:Sl a b H hl hh rl rh A) (h:b<0):b*b*A<=H*H*4294967296*1000000:=by
 have h0:b*rh<=0:=Int.mul_nonpos_of_nonpos_of_nonneg (by omega) (by have:=s.r0; have:=s.rr; omega)
 have h1:=s.b2
 have h2:=s.H2
 exact sq_a (sq_dn (by omega) (by omega)) s.R2
theorem Sl.hi (s:Sl a b H hl hh rl rh A):H*H*4294967296*1000000<=b*b*A\/H*H*4294967296*1000000<=a*a*A:=by
 rcases Int.le_total 0 H with h|h
 .have h1:=s.b1
  have h2:=s.H2
  exact .inl (sq_b (sq_up (by omega) (by omega)) s.R1)
 .have h1:=s.a2
  have h2:=s.H1
  exact .inr (sq_b (sq_dn (by omega) (by omega)) s.R1)
end
theorem ord_z {x:Rat} (h:ordR x>0):0<=x:=by
 apply Rat.num_nonneg.1
 unfold ordR at h
 split at h
 .omega
 .split at h <;> omega
theorem int_np {x:Rat} {n p:Int} (hp:0<p) (h:x*(p:Rat)=(n:Rat)) (hx:x<=0):n<=0:=by
 rcases Int.lt_or_le 0 n with h1|h1
 .exfalso
  have h2:(0:Rat)<(p:Rat):=by exact_mod_cast hp
  have h3:(0:Rat)<(n:Rat):=by exact_mod_cast h1
  have:=Rat.mul_nonneg (a:=-x) (b:=p) (by grind) (by grind)
  grind
 .exact h1
theorem int_nn {x:Rat} {n p:Int} (hp:0<p) (h:x*(p:Rat)=(n:Rat)) (hx:0<=x):0<=n:=by
 have:=int_np (x:=-x) (n:=-n) hp (by push_cast; grind) (by grind)
 omega
section
variable {c k x y:Int}
theorem szD {u:Sp} (h1:u.lo.natAbs<=9223372036854775808) (h2:u.hi.natAbs<=9223372036854775808):Sz 13 (fD u):=by
 unfold fD; rw [qN_eq,qN_eq]; exact szs (szV2 h1) (szV2 h2) rfl
theorem szB (d:Dr c k x y) {w:Int} (h1:-32768<=w) (h2:w<=32767):Sz 6 (fB c w):=by
 unfold fB; rw [qN_eq,qN_eq]; exact szm (szC d) (szP h1 h2) rfl
theorem szB2 (d:Dr c k x y) {w:Int} (h1:-32768<=w) (h2:w<=32767):Sz 12 (fB2 c w):=by
 unfold fB2; rw [qN_eq]; exact szm (szB d h1 h2) (szB d h1 h2) rfl
theorem szLoF (z s:Bool) {A B:Rat} (hA:Sz 6 A) (hB:Sz 6 B):Sz 6 (loF z s A B):=by
 cases z
 .cases s
  .exact hA
  .exact hB
 .have h:Sz 3 (Rat.divInt 0 1):=sz_3 (by decide) (by decide) (by decide)
  exact Sz.mono (l:=6) h (by decide)
theorem szHiF (s:Bool) {A B:Rat} (hA:Sz 6 A) (hB:Sz 6 B):Sz 6 (hiF s A B):=by
 cases s
 .exact hB
 .exact hA
theorem fD_eq (u:Sp):fD u*((4294967296*4294967296:Int):Rat)=((u.lo*u.lo - u.hi*u.hi:Int):Rat):=by
 unfold fD fV2 fV
 simp only [qN_eq,Rat.divInt_eq_div]
 push_cast
 grind
theorem diff_eq (d:Dr c k x y) (w:Int) (h1:-32768<=w) (h2:w<=32767) {q:Rat} {j:Int} (hq:q*((4294967296*4294967296:Int):Rat)=(j:Rat)):(qN (qN q*qN (fL c k x y)) - qN (fB2 c w))*((4294967296*4294967296*(4294967296*1000000000000000000000000):Int):Rat)=((j*lA (cc c) (kk k) x y - w*16777216*cc c*(w*16777216*cc c)*4294967296*1000000:Int):Rat):=by
 have e:=fL_eq d
 unfold fB2 fB fC fP
 simp only [qN_eq,Rat.divInt_eq_div,wr h1 h2]
 generalize fL c k x y=L at *
 push_cast at e hq ⊢
 grind
theorem loF_eq (z s:Bool) (u:Sp):loF z s (fV2 u.lo) (fV2 u.hi)*((4294967296*4294967296:Int):Rat)=((bif z then 0 else bif s then u.hi*u.hi else u.lo*u.lo:Int):Rat):=by
 cases z
 .cases s
  .show fV2 u.lo*_=((u.lo*u.lo:Int):Rat)
   unfold fV2 fV
   simp only [qN_eq,Rat.divInt_eq_div]
   push_cast
   grind
  .show fV2 u.hi*_=((u.hi*u.hi:Int):Rat)
   unfold fV2 fV
   simp only [qN_eq,Rat.divInt_eq_div]
   push_cast
   grind
 .show Rat.divInt 0 1*_=((0:Int):Rat)
  simp only [Rat.divInt_eq_div]
  push_cast
  grind
theorem hiF_eq (s:Bool) (u:Sp):hiF s (fV2 u.lo) (fV2 u.hi)*((4294967296*4294967296:Int):Rat)=((bif s then u.lo*u.lo else u.hi*u.hi:Int):Rat):=by
 have:=loF_eq false (!s) u
 cases s <;> exact this
theorem part_law (d:Dr c k x y) {u:Sp} {w hl hh rl rh:Int} (h1:-32768<=w) (h2:w<=32767) (hu:Bd u 1180591620751360) (sl:Sl u.lo u.hi (w*16777216*cc c) hl hh rl rh (lA (cc c) (kk k) x y)):∃ s z,partN c k x y z s u w/\badB c k x y z s u w=false:=by
 have b1:=hu.lo
 have b2:=hu.le
 have b3:=hu.hi
 have A0:=sl.A0
 have n1:u.lo.natAbs<=9223372036854775808:=by omega
 have n2:u.hi.natAbs<=9223372036854775808:=by omega
 have v1:=szV n1
 have v2:=szV n2
 have w1:=szV2 n1
 have w2:=szV2 n2
 have L:=szL d
 have B:=szB d h1 h2
 have B2:=szB2 d h1 h2
 refine ⟨decide (ordR (qN (fD u))>0),decide (u.lo<=0)&&decide (u.hi>=0),?_⟩
 generalize hs:decide (ordR (qN (fD u))>0)=s
 generalize hz:(decide (u.lo<=0)&&decide (u.hi>=0))=z
 have hm:(bif s then u.hi*u.hi else u.lo*u.lo)<=u.lo*u.lo/\(bif s then u.hi*u.hi else u.lo*u.lo)<=u.hi*u.hi/\u.lo*u.lo<=(bif s then u.lo*u.lo else u.hi*u.hi)/\u.hi*u.hi<=(bif s then u.lo*u.lo else u.hi*u.hi):=by
  rw [qN_eq] at hs
  cases s
  .have:=int_np (by decide) (fD_eq u) (ord_p (by have:=of_decide_eq_false hs; omega))
   simp only [cond_false]; omega
  .have:=int_nn (by decide) (fD_eq u) (ord_z (of_decide_eq_true hs))
   simp only [cond_true]; omega
 have lo:=szLoF z s w1 w2
 have hi:=szHiF s w1 w2
 have slo:Sz 32 (fLo c k x y z s u):=by unfold fLo; rw [qN_eq,qN_eq]; exact szm lo L rfl
 have shi:Sz 32 (fHi c k x y s u):=by unfold fHi; rw [qN_eq,qN_eq]; exact szm hi L rfl
 have s1:Sz 45 (f1 c k x y z s u w):=by unfold f1; rw [qN_eq,qN_eq]; exact szs slo B2 rfl
 have s2:Sz 45 (f2 c k x y s u w):=by unfold f2; rw [qN_eq,qN_eq]; exact szs shi B2 rfl
 have g1:¬ ordR (qN (f1 c k x y z s u w))>0:=by
  have e:=diff_eq d w h1 h2 (loF_eq z s u)
  rw [qN_eq]
  have:=ord_np (np_of (x:=f1 c k x y z s u w) (by decide) e (by
   have hq:0<=w*16777216*cc c*(w*16777216*cc c):=by
    rcases Int.le_total 0 (w*16777216*cc c) with h|h
    .exact Int.mul_nonneg h h
    .exact Int.mul_nonneg_of_nonpos_of_nonpos h h
   cases z
   .have hz:¬ (u.lo<=0/\u.hi>=0):=by
     intro h
     rw [decide_eq_true h.1,decide_eq_true h.2] at hz
     cases hz
    simp only [cond_false]
    rcases Int.lt_or_le 0 u.lo with h|h
    .have l1:=sl.lo1 h
     have:=Int.mul_le_mul_of_nonneg_right hm.1 A0
     omega
    .have l1:=sl.lo2 (by omega)
     have:=Int.mul_le_mul_of_nonneg_right hm.2.1 A0
     omega
   .simp only [cond_true]; omega))
  omega
 have g2:¬ ordR (qN (f2 c k x y s u w))<0:=by
  have e:=diff_eq d w h1 h2 (hiF_eq s u)
  rw [qN_eq]
  have:=ord_nn (nn_of (x:=f2 c k x y s u w) (by decide) e (by
   rcases sl.hi with h|h
   .have:=Int.mul_le_mul_of_nonneg_right hm.2.2.2 A0
    omega
   .have:=Int.mul_le_mul_of_nonneg_right hm.2.2.1 A0
    omega))
  omega
 refine ⟨⟨decide_eq_false (by omega),⟨ofC_of (by decide) n1 (by decide),rfl,ofC_of (by decide) n2 (by decide)⟩,⟨mulN_of v1 v1 (by decide),⟨e4_all _,e4_all _⟩,mulN_of v2 v2 (by decide)⟩,⟨subN_of w1 w2 (by decide),(szD n1 n2).g (by decide),hs⟩,?_,⟨?_,e4_all _,mulN_of (szC d) (szP h1 h2) (by decide)⟩,mulN_of B B (by decide),
  mulN_of lo L (by decide),e4_all _,subN_of slo B2 (by decide),s1.g (by decide),fun _=>⟨mulN_of hi L (by decide),e4_all _,subN_of shi B2 (by decide),s2.g (by decide)⟩⟩,?_⟩
 .have:(decide (u.lo<=0)=true->decide (u.hi>=0)=z)/\(decide (u.lo<=0)=false->false=z):=by
   rw [<- hz]
   exact ⟨fun h=>by rw [h]; rfl,fun h=>by rw [h]; rfl⟩
  cases z
  .exact this
  .exact ⟨this,ofC_of (by decide) (by decide) (by decide)⟩
 .rw [wr h1 h2]; exact ofC_of (by decide) (by omega) (by decide)
 .unfold badB
  rw [decide_eq_false g1,decide_eq_false g2]
  rfl
theorem st_law (d:Dr c k x y):stFN c k x y\/∃ s z s' z',stGN c k x y s z s' z'/\stGB c k x y s z s' z'=true:=by
 have n:=d.nums
 have px:=pp_eq ⟨d.x1,d.x2⟩
 have py:=pp_eq ⟨d.y1,d.y2⟩
 rcases Int.lt_or_le 0 (s6 (cc c) (kk k) (x*16777216) (x*16777216) (y*16777216) (y*16777216)).lo with h|h
 .right
  have g:=(inS n h).2
  obtain ⟨b7,r0,_,_⟩:=S7 n h
  obtain ⟨R1,R2⟩:=root_A n h
  obtain ⟨bx,fx⟩:=S14 n h
  obtain ⟨_,ex⟩:=Hs n ⟨n.x1,n.x2⟩
  have xl:(s13 (cc c) (kk k) (x*16777216) (x*16777216) (y*16777216) (y*16777216)).lo*1000000000<=x*16777216*cc c:=by
   have:=ex.lo
   show (xScaleS (x*16777216) (x*16777216) (cc c) 1000000000).lo*1000000000<=_
   omega
  have xh:x*16777216*cc c<=(s13 (cc c) (kk k) (x*16777216) (x*16777216) (y*16777216) (y*16777216)).hi*1000000000:=by
   have:=ex.hi
   show _<=(xScaleS (x*16777216) (x*16777216) (cc c) 1000000000).hi*1000000000
   omega
  obtain ⟨by',fy⟩:=S12 n h
  obtain ⟨_,ey⟩:=Hs n ⟨n.y1,n.y2⟩
  have yl:(s11 (cc c) (kk k) (x*16777216) (x*16777216) (y*16777216) (y*16777216)).lo*1000000000<=y*16777216*cc c:=by
   have:=ey.lo
   show (xScaleS (y*16777216) (y*16777216) (cc c) 1000000000).lo*1000000000<=_
   omega
  have yh:y*16777216*cc c<=(s11 (cc c) (kk k) (x*16777216) (x*16777216) (y*16777216) (y*16777216)).hi*1000000000:=by
   have:=ey.hi
   show _<=(xScaleS (y*16777216) (y*16777216) (cc c) 1000000000).hi*1000000000
   omega
  obtain ⟨s,z,p1,p2⟩:=part_law d (u:=s14 (cc c) (kk k) (x*16777216) (x*16777216) (y*16777216) (y*16777216)) (w:=x) d.x1 d.x2 bx ⟨by omega,b7.le,R1,R2,xl,xh,(fx _ _ (.inl rfl) (.inr rfl)).1,(fx _ _ (.inl rfl) (.inl rfl)).1,(fx _ _ (.inr rfl) (.inl rfl)).2,(fx _ _ (.inr rfl) (.inr rfl)).2⟩
  obtain ⟨s',z',q1,q2⟩:=part_law d (u:=s12 (cc c) (kk k) (x*16777216) (x*16777216) (y*16777216) (y*16777216)) (w:=y) d.y1 d.y2 by' ⟨by omega,b7.le,R1,R2,yl,yh,(fy _ _ (.inl rfl) (.inr rfl)).1,(fy _ _ (.inl rfl) (.inl rfl)).1,(fy _ _ (.inr rfl) (.inl rfl)).2,(fy _ _ (.inr rfl) (.inr rfl)).2⟩
  refine ⟨s,z,s',z',?_,?_⟩
  .unfold stGN slX slY
   rw [px,py]
   exact ⟨⟨⟨rfl,rfl,rfl⟩,⟨rfl,rfl⟩,g⟩,shape_n d,p1,fun _=>q1⟩
  .unfold stGB slX slY
   rw [px,py,p2,q2]
   rfl
 .left
  have g:=outS n h
  unfold stFN
  rw [px,py]
  exact ⟨⟨⟨rfl,rfl,rfl⟩,⟨rfl,rfl⟩,g⟩,⟨rfl,rfl,rfl⟩,⟨rfl,rfl⟩,g⟩
end
end Go.Co
