/- What is proved: MtfBounds returns true, whatever the input (part 31). No conditions beyond those of the row. -/
import Derived.Test.YtbiiiloimbjpaaaDoorPc
import Derived.Test.YtbiiiloimbjpaaaDoorPd
import Derived.KernelRfl
set_option linter.unusedVariables false
set_option linter.unusedSimpArgs false
set_option linter.unusedSectionVars false
namespace Go.Proofs.YtbiiiloimbjpaaaDoor.K
open Go Go.Eng Go.Dg Go.Ar Go.Vc
noncomputable section
def RJ (F:MtF):List (FuncId×fI):=[(17,sAt F),(14,sAk F)]
theorem RL:∀ x∈RJ mtF,NOk Tryd.prog glob hG x.1 x.2:=by
 intro x hx
 simp only [RJ,List.mem_cons,List.not_mem_nil,or_false] at hx
 rcases hx with rfl|rfl
 .exact WJ
 .exact WK
def hMu (T:List Nat) (v:AV) (c t:Nat):Option AV:=match T with
 | []=>none
 | a :: l=>match Nat.beq t a with
  | true=>some v
  | false=>hMu l v c t
noncomputable def cMu (F:MtF):Ctx:=gz (mkN Tryd.prog glob hG (RJ F) [] ext) (hMu [20] (.bool false false))
theorem pq:CtxOk (cMu mtF):=cO (oN prog_ok ext_ok RL (fun _ h=>by cases h)) _
def muP (F:MtF) (n:Nat) (f:Int) (b:Bool) (ys:List Int):Prop:=akP F n (aD true ys) (aD false ys)/\((decide (f<0)=true->true=false)/\(decide (f<0)=false->decide (f>2000)=false))/\atP F n f (aD b ys)
structure MuF where
 M:Nat->Int->Bool->List Int->Prop
 A:Nat->Int->Bool->List Int->Sp
def muF:MuF:=⟨muP mtF,fun n f b ys=>atO mtF n f (aD b ys)⟩
def vMu (G:MuF):Nat->List Int->List Nu->Option (Prop×AV):=fun n ys xs=>match xs with
 | [.n f,.t b]=>match Nat.ble n 8&&(Nat.blt 0 n&&Nat.beq ys.length (4*n)) with
  | true=>some (G.M n f b ys,.tuple [.agg [.int true .i64 (G.A n f b ys).lo,.int true .i64 (G.A n f b ys).hi],.int false .i64 0])
  | false=>none
 | _=>none
def sMu (G:MuF):fI:=zC hG .i64 4 [.i .i64,.b] (vMu G)
theorem mu1 (F:MtF) (a0 b0 c0 d0 f:Int) (b:Bool):dF 5 1 ((run (cMu F) 6000).call 9 [.gslice 4 0 1 4,.int true .i64 f,.bool true b] (hG.push0 (.grown (bM .i64 [a0,b0,c0,d0]))))=some (.p (muP F 1 f b [a0,b0,c0,d0]),.tuple [.agg [.int true .i64 (atO F 1 f (aD b [a0,b0,c0,d0])).lo,.int true .i64 (atO F 1 f (aD b [a0,b0,c0,d0])).hi],.int false .i64 0]):=by kernel_rfl
theorem mu2 (F:MtF) (a0 b0 c0 d0 a1 b1 c1 d1 f:Int) (b:Bool):dF 5 1 ((run (cMu F) 6000).call 9 [.gslice 4 0 2 4,.int true .i64 f,.bool true b] (hG.push0 (.grown (bM .i64 [a0,b0,c0,d0,a1,b1,c1,d1]))))=some (.p (muP F 2 f b [a0,b0,c0,d0,a1,b1,c1,d1]),.tuple [.agg [.int true .i64 (atO F 2 f (aD b [a0,b0,c0,d0,a1,b1,c1,d1])).lo,.int true .i64 (atO F 2 f (aD b [a0,b0,c0,d0,a1,b1,c1,d1])).hi],.int false .i64 0]):=by kernel_rfl
theorem mu3 (F:MtF) (a0 b0 c0 d0 a1 b1 c1 d1 a2 b2 c2 d2 f:Int) (b:Bool):dF 5 1 ((run (cMu F) 6000).call 9 [.gslice 4 0 3 4,.int true .i64 f,.bool true b] (hG.push0 (.grown (bM .i64 [a0,b0,c0,d0,a1,b1,c1,d1,a2,b2,c2,d2]))))=some (.p (muP F 3 f b [a0,b0,c0,d0,a1,b1,c1,d1,a2,b2,c2,d2]),.tuple [.agg [.int true .i64 (atO F 3 f (aD b [a0,b0,c0,d0,a1,b1,c1,d1,a2,b2,c2,d2])).lo,.int true .i64 (atO F 3 f (aD b [a0,b0,c0,d0,a1,b1,c1,d1,a2,b2,c2,d2])).hi],.int false .i64 0]):=by kernel_rfl
theorem mu4 (F:MtF) (a0 b0 c0 d0 a1 b1 c1 d1 a2 b2 c2 d2 a3 b3 c3 d3 f:Int) (b:Bool):dF 5 1 ((run (cMu F) 6000).call 9 [.gslice 4 0 4 4,.int true .i64 f,.bool true b] (hG.push0 (.grown (bM .i64 [a0,b0,c0,d0,a1,b1,c1,d1,a2,b2,c2,d2,a3,b3,c3,d3]))))=some (.p (muP F 4 f b [a0,b0,c0,d0,a1,b1,c1,d1,a2,b2,c2,d2,a3,b3,c3,d3]),.tuple [.agg [.int true .i64 (atO F 4 f (aD b [a0,b0,c0,d0,a1,b1,c1,d1,a2,b2,c2,d2,a3,b3,c3,d3])).lo,.int true .i64 (atO F 4 f (aD b [a0,b0,c0,d0,a1,b1,c1,d1,a2,b2,c2,d2,a3,b3,c3,d3])).hi],.int false .i64 0]):=by kernel_rfl
theorem mu5 (F:MtF) (a0 b0 c0 d0 a1 b1 c1 d1 a2 b2 c2 d2 a3 b3 c3 d3 a4 b4 c4 d4 f:Int) (b:Bool):dF 5 1 ((run (cMu F) 6000).call 9 [.gslice 4 0 5 4,.int true .i64 f,.bool true b] (hG.push0 (.grown (bM .i64 [a0,b0,c0,d0,a1,b1,c1,d1,a2,b2,c2,d2,a3,b3,c3,d3,a4,b4,c4,d4]))))=some (.p (muP F 5 f b [a0,b0,c0,d0,a1,b1,c1,d1,a2,b2,c2,d2,a3,b3,c3,d3,a4,b4,c4,d4]),.tuple [.agg [.int true .i64 (atO F 5 f (aD b [a0,b0,c0,d0,a1,b1,c1,d1,a2,b2,c2,d2,a3,b3,c3,d3,a4,b4,c4,d4])).lo,.int true .i64 (atO F 5 f (aD b [a0,b0,c0,d0,a1,b1,c1,d1,a2,b2,c2,d2,a3,b3,c3,d3,a4,b4,c4,d4])).hi],.int false .i64 0]):=by kernel_rfl
theorem mu6 (F:MtF) (a0 b0 c0 d0 a1 b1 c1 d1 a2 b2 c2 d2 a3 b3 c3 d3 a4 b4 c4 d4 a5 b5 c5 d5 f:Int) (b:Bool):dF 5 1 ((run (cMu F) 6000).call 9 [.gslice 4 0 6 4,.int true .i64 f,.bool true b] (hG.push0 (.grown (bM .i64 [a0,b0,c0,d0,a1,b1,c1,d1,a2,b2,c2,d2,a3,b3,c3,d3,a4,b4,c4,d4,a5,b5,c5,d5]))))=some (.p (muP F 6 f b [a0,b0,c0,d0,a1,b1,c1,d1,a2,b2,c2,d2,a3,b3,c3,d3,a4,b4,c4,d4,a5,b5,c5,d5]),.tuple [.agg [.int true .i64 (atO F 6 f (aD b [a0,b0,c0,d0,a1,b1,c1,d1,a2,b2,c2,d2,a3,b3,c3,d3,a4,b4,c4,d4,a5,b5,c5,d5])).lo,.int true .i64 (atO F 6 f (aD b [a0,b0,c0,d0,a1,b1,c1,d1,a2,b2,c2,d2,a3,b3,c3,d3,a4,b4,c4,d4,a5,b5,c5,d5])).hi],.int false .i64 0]):=by kernel_rfl
theorem mu7 (F:MtF) (a0 b0 c0 d0 a1 b1 c1 d1 a2 b2 c2 d2 a3 b3 c3 d3 a4 b4 c4 d4 a5 b5 c5 d5 a6 b6 c6 d6 f:Int) (b:Bool):dF 5 1 ((run (cMu F) 6000).call 9 [.gslice 4 0 7 4,.int true .i64 f,.bool true b] (hG.push0 (.grown (bM .i64 [a0,b0,c0,d0,a1,b1,c1,d1,a2,b2,c2,d2,a3,b3,c3,d3,a4,b4,c4,d4,a5,b5,c5,d5,a6,b6,c6,d6]))))=some (.p (muP F 7 f b [a0,b0,c0,d0,a1,b1,c1,d1,a2,b2,c2,d2,a3,b3,c3,d3,a4,b4,c4,d4,a5,b5,c5,d5,a6,b6,c6,d6]),.tuple [.agg [.int true .i64 (atO F 7 f (aD b [a0,b0,c0,d0,a1,b1,c1,d1,a2,b2,c2,d2,a3,b3,c3,d3,a4,b4,c4,d4,a5,b5,c5,d5,a6,b6,c6,d6])).lo,.int true .i64 (atO F 7 f (aD b [a0,b0,c0,d0,a1,b1,c1,d1,a2,b2,c2,d2,a3,b3,c3,d3,a4,b4,c4,d4,a5,b5,c5,d5,a6,b6,c6,d6])).hi],.int false .i64 0]):=by kernel_rfl
theorem mu8 (F:MtF) (a0 b0 c0 d0 a1 b1 c1 d1 a2 b2 c2 d2 a3 b3 c3 d3 a4 b4 c4 d4 a5 b5 c5 d5 a6 b6 c6 d6 a7 b7 c7 d7 f:Int) (b:Bool):dF 5 1 ((run (cMu F) 6000).call 9 [.gslice 4 0 8 4,.int true .i64 f,.bool true b] (hG.push0 (.grown (bM .i64 [a0,b0,c0,d0,a1,b1,c1,d1,a2,b2,c2,d2,a3,b3,c3,d3,a4,b4,c4,d4,a5,b5,c5,d5,a6,b6,c6,d6,a7,b7,c7,d7]))))=some (.p (muP F 8 f b [a0,b0,c0,d0,a1,b1,c1,d1,a2,b2,c2,d2,a3,b3,c3,d3,a4,b4,c4,d4,a5,b5,c5,d5,a6,b6,c6,d6,a7,b7,c7,d7]),.tuple [.agg [.int true .i64 (atO F 8 f (aD b [a0,b0,c0,d0,a1,b1,c1,d1,a2,b2,c2,d2,a3,b3,c3,d3,a4,b4,c4,d4,a5,b5,c5,d5,a6,b6,c6,d6,a7,b7,c7,d7])).lo,.int true .i64 (atO F 8 f (aD b [a0,b0,c0,d0,a1,b1,c1,d1,a2,b2,c2,d2,a3,b3,c3,d3,a4,b4,c4,d4,a5,b5,c5,d5,a6,b6,c6,d6,a7,b7,c7,d7])).hi],.int false .i64 0]):=by kernel_rfl
theorem acS:NOk Tryd.prog glob hG 9 (sMu muF):=by
 refine zD J2 uz xg (fun n ys xs p v hV hp=>?_) ⟨_,Tryd.func9,rfl⟩
 unfold vMu at hV
 split at hV
 .rename_i f b
  split at hV
  .rename_i hb
   simp only [Bool.and_eq_true] at hb
   have h8:=Nat.le_of_ble_eq_true hb.1
   have hl:=Nat.eq_of_beq_eq_true hb.2.2
   cases hV
   rcases RI h8 with rfl|rfl|rfl|rfl|rfl|rfl|rfl|rfl|rfl
   .cases hb.2.1
   .match ys,hl with
    | [a0,b0,c0,d0],_=>exact ⟨rfl,cMu mtF,6000,[.int true .i64 f,.bool true b],_,_,pq,rfl,rfl,⟨⟨rfl,rfl⟩,rfl,trivial⟩,mu1 mtF a0 b0 c0 d0 f b,hp,rfl,⟨⟨⟨rfl,rfl⟩,⟨rfl,rfl⟩,trivial⟩,⟨rfl,rfl⟩,trivial⟩⟩
   .match ys,hl with
    | [a0,b0,c0,d0,a1,b1,c1,d1],_=>exact ⟨rfl,cMu mtF,6000,[.int true .i64 f,.bool true b],_,_,pq,rfl,rfl,⟨⟨rfl,rfl⟩,rfl,trivial⟩,mu2 mtF a0 b0 c0 d0 a1 b1 c1 d1 f b,hp,rfl,⟨⟨⟨rfl,rfl⟩,⟨rfl,rfl⟩,trivial⟩,⟨rfl,rfl⟩,trivial⟩⟩
   .match ys,hl with
    | [a0,b0,c0,d0,a1,b1,c1,d1,a2,b2,c2,d2],_=>exact ⟨rfl,cMu mtF,6000,[.int true .i64 f,.bool true b],_,_,pq,rfl,rfl,⟨⟨rfl,rfl⟩,rfl,trivial⟩,mu3 mtF a0 b0 c0 d0 a1 b1 c1 d1 a2 b2 c2 d2 f b,hp,rfl,⟨⟨⟨rfl,rfl⟩,⟨rfl,rfl⟩,trivial⟩,⟨rfl,rfl⟩,trivial⟩⟩
   .match ys,hl with
    | [a0,b0,c0,d0,a1,b1,c1,d1,a2,b2,c2,d2,a3,b3,c3,d3],_=>exact ⟨rfl,cMu mtF,6000,[.int true .i64 f,.bool true b],_,_,pq,rfl,rfl,⟨⟨rfl,rfl⟩,rfl,trivial⟩,mu4 mtF a0 b0 c0 d0 a1 b1 c1 d1 a2 b2 c2 d2 a3 b3 c3 d3 f b,hp,rfl,⟨⟨⟨rfl,rfl⟩,⟨rfl,rfl⟩,trivial⟩,⟨rfl,rfl⟩,trivial⟩⟩
   .match ys,hl with
    | [a0,b0,c0,d0,a1,b1,c1,d1,a2,b2,c2,d2,a3,b3,c3,d3,a4,b4,c4,d4],_=>exact ⟨rfl,cMu mtF,6000,[.int true .i64 f,.bool true b],_,_,pq,rfl,rfl,⟨⟨rfl,rfl⟩,rfl,trivial⟩,mu5 mtF a0 b0 c0 d0 a1 b1 c1 d1 a2 b2 c2 d2 a3 b3 c3 d3 a4 b4 c4 d4 f b,hp,rfl,⟨⟨⟨rfl,rfl⟩,⟨rfl,rfl⟩,trivial⟩,⟨rfl,rfl⟩,trivial⟩⟩
   .match ys,hl with
    | [a0,b0,c0,d0,a1,b1,c1,d1,a2,b2,c2,d2,a3,b3,c3,d3,a4,b4,c4,d4,a5,b5,c5,d5],_=>exact ⟨rfl,cMu mtF,6000,[.int true .i64 f,.bool true b],_,_,pq,rfl,rfl,⟨⟨rfl,rfl⟩,rfl,trivial⟩,mu6 mtF a0 b0 c0 d0 a1 b1 c1 d1 a2 b2 c2 d2 a3 b3 c3 d3 a4 b4 c4 d4 a5 b5 c5 d5 f b,hp,rfl,⟨⟨⟨rfl,rfl⟩,⟨rfl,rfl⟩,trivial⟩,⟨rfl,rfl⟩,trivial⟩⟩
   .match ys,hl with
    | [a0,b0,c0,d0,a1,b1,c1,d1,a2,b2,c2,d2,a3,b3,c3,d3,a4,b4,c4,d4,a5,b5,c5,d5,a6,b6,c6,d6],_=>exact ⟨rfl,cMu mtF,6000,[.int true .i64 f,.bool true b],_,_,pq,rfl,rfl,⟨⟨rfl,rfl⟩,rfl,trivial⟩,mu7 mtF a0 b0 c0 d0 a1 b1 c1 d1 a2 b2 c2 d2 a3 b3 c3 d3 a4 b4 c4 d4 a5 b5 c5 d5 a6 b6 c6 d6 f b,hp,rfl,⟨⟨⟨rfl,rfl⟩,⟨rfl,rfl⟩,trivial⟩,⟨rfl,rfl⟩,trivial⟩⟩
   .match ys,hl with
    | [a0,b0,c0,d0,a1,b1,c1,d1,a2,b2,c2,d2,a3,b3,c3,d3,a4,b4,c4,d4,a5,b5,c5,d5,a6,b6,c6,d6,a7,b7,c7,d7],_=>exact ⟨rfl,cMu mtF,6000,[.int true .i64 f,.bool true b],_,_,pq,rfl,rfl,⟨⟨rfl,rfl⟩,rfl,trivial⟩,mu8 mtF a0 b0 c0 d0 a1 b1 c1 d1 a2 b2 c2 d2 a3 b3 c3 d3 a4 b4 c4 d4 a5 b5 c5 d5 a6 b6 c6 d6 a7 b7 c7 d7 f b,hp,rfl,⟨⟨⟨rfl,rfl⟩,⟨rfl,rfl⟩,trivial⟩,⟨rfl,rfl⟩,trivial⟩⟩
  .cases hV
 .cases hV
end
end Go.Proofs.YtbiiiloimbjpaaaDoor.K
namespace Go.Vc
open Go Go.Eng Go.Ar Go.Dg Go.Sn Go.Iv
def fdS (m:Int):Sp->List Int->Sp
 | s,[]=>s
 | s,p :: l=>fdS m (gW s.lo s.hi (iB m p D32) (iC m p D32)) l
def fdN (m:Int):Sp->List Int->Prop
 | _,[]=>True
 | s,p :: l=>(gW s.lo s.hi (iB m p D32) (iC m p D32)).e=0/\fdN m (gW s.lo s.hi (iB m p D32) (iC m p D32)) l
def fdR (m:Int):Rat->List Int->Rat
 | x,[]=>x
 | x,p :: l=>fdR m (x+rs2 m p) l
theorem WL (m:Int):∀ (l:List Int) (s:Sp) (x:Rat) (B:Int),s.e=0->bg s.lo s.hi=true->-B<=s.lo->s.hi<=B->B+13000000000*l.length<=200000000000->cn s.lo s.hi x ->
  fdN m s l/\(fdS m s l).e=0/\bg (fdS m s l).lo (fdS m s l).hi=true/\-200000000000<=(fdS m s l).lo/\(fdS m s l).hi<=200000000000/\cn (fdS m s l).lo (fdS m s l).hi (fdR m x l)
 | [],s,x,B,e,ho,h1,h2,h3,hc=>⟨trivial,e,ho,by simp only [List.length_nil] at h3; show _<=s.lo; omega,by simp only [List.length_nil] at h3; show s.hi<=_; omega,hc⟩
 | p :: l,s,x,B,e,ho,h1,h2,h3,hc=>by
  simp only [List.length_cons] at h3
  obtain ⟨b,b1,b2⟩:=J7 m p
  have ea:gW s.lo s.hi (iB m p D32) (iC m p D32)=⟨s.lo+iB m p D32,s.hi+iC m p D32,0⟩:=Iv.add_small ho b (by omega) (by omega)
  have ez:(gW s.lo s.hi (iB m p D32) (iC m p D32)).e=0:=by rw [ea]
  have hc':=Rw ez hc (IJ m p)
  have r:=WL m l (gW s.lo s.hi (iB m p D32) (iC m p D32)) (x+rs2 m p) (B+13000000000) ez (WI ez hc') (by rw [ea]; show _<=_+_; omega) (by rw [ea]; show _+_<=_; omega) (by push_cast at h3 ⊢; omega) hc'
  exact ⟨⟨ez,r.1⟩,r.2⟩
def msA (m:Int):List Int->Sp
 | []=>⟨0,0,0⟩
 | p :: l=>fdS m ⟨iB m p D32,iC m p D32,0⟩ l
def msN (m:Int):List Int->Prop
 | []=>True
 | p :: l=>fdN m ⟨iB m p D32,iC m p D32,0⟩ l
def msR (m:Int):List Int->Rat
 | []=>0
 | p :: l=>fdR m (rs2 m p) l
def msB (m:Int) (l:List Int):Sp:=nC (msA m l).lo (msA m l).hi
def msQ (l:List Int):Sp:=gW (msB 1 l).lo (msB 1 l).hi (msB 0 l).lo (msB 0 l).hi
def msT (l:List Int):Sp:=kU (msQ l).lo (msQ l).hi
def msO (n:Int) (l:List Int):Sp:=fP (msT l).lo (msT l).hi 1 n
def msX (l:List Int):Rat:=msR 1 l*msR 1 l+msR 0 l*msR 0 l
theorem RN (m:Int) {l:List Int} (h1:1<=l.length) (h8:l.length<=8):msN m l/\(msA m l).e=0/\bg (msA m l).lo (msA m l).hi=true/\-200000000000<=(msA m l).lo/\(msA m l).hi<=200000000000/\cn (msA m l).lo (msA m l).hi (msR m l):=by
 cases l with
 | nil=>cases h1
 | cons p l=>
  simp only [List.length_cons] at h8
  obtain ⟨b,b1,b2⟩:=J7 m p
  exact WL m l ⟨iB m p D32,iC m p D32,0⟩ (rs2 m p) 13000000000 rfl b b1 b2 (by omega) (IJ m p)
theorem DT (m:Int) {l:List Int} (h1:1<=l.length) (h8:l.length<=8):(msB m l).e=0/\bg (msB m l).lo (msB m l).hi=true/\0<=(msB m l).lo/\(msB m l).hi<=10000000000000/\cn (msB m l).lo (msB m l).hi (msR m l*msR m l):=by
 unfold msB
 obtain ⟨_,_,a1,a2,a3,a4⟩:=RN m h1 h8
 obtain ⟨e,l0,l1,h0,h1⟩:=LM (m:=10000000000000) a1 a2 a3 (by decide) (by decide) (by decide)
 have hc:=aaO e a4
 have:=Gs hc
 exact ⟨e,aJ.2 ⟨by omega,this,by omega⟩,l0,h1,hc⟩
theorem RO {l:List Int} (h1:1<=l.length) (h8:l.length<=8):(msQ l).e=0/\bg (msQ l).lo (msQ l).hi=true/\0<=(msQ l).lo/\(msQ l).hi<=20000000000000/\cn (msQ l).lo (msQ l).hi (msX l):=by
 obtain ⟨_,a1,a2,a3,a4⟩:=DT 1 h1 h8
 obtain ⟨_,b1,b2,b3,b4⟩:=DT 0 h1 h8
 have p:=aJ.1 a1
 have q:=aJ.1 b1
 have e:msQ l=⟨_,_,0⟩:=Iv.add_small a1 b1 (by omega) (by omega)
 have ez:(msQ l).e=0:=by rw [e]
 have hc:=Rw ez a4 b4
 exact ⟨ez,WI ez hc,by rw [e]; show _<=_+_; omega,by rw [e]; show _+_<=_; omega,hc⟩
theorem RP {l:List Int} (h1:1<=l.length) (h8:l.length<=8):(msT l).e=0/\bg (msT l).lo (msT l).hi=true/\0<=(msT l).lo/\(msT l).hi<=8796093022209/\∃ s:Rat,0<=s/\cn (msT l).lo (msT l).hi s/\s*s<=msX l/\(msX l - s*s)*((2 ^ 200:Nat):Rat)<=1:=by
 obtain ⟨_,a1,a2,a3,a4⟩:=RO h1 h8
 have e:msT l=⟨rtV (msQ l).lo false,rtV (msQ l).hi true,0⟩:=by
  unfold msT kU
  rw [a1,decide_eq_false (by omega)]; rfl
 have ez:(msT l).e=0:=by rw [e]
 obtain ⟨s,s0,hc,s1,s2⟩:=Vn ez a4 (2 ^ 200) (by decide)
 have hl:(msT l).lo<=(msT l).hi:=Gs hc
 have p:=aJ.1 a1
 have k1:kM (msQ l).lo=true:=by unfold kM okF; simp only [Bool.and_eq_true,decide_eq_true_eq]; omega
 have k2:kM (msQ l).hi=true:=by unfold kM okF; simp only [Bool.and_eq_true,decide_eq_true_eq]; omega
 obtain ⟨r0,_,_,r3⟩:=kG k1
 obtain ⟨t0,_,_,t3⟩:=kG k2
 have hh:(msT l).hi<=8796093022209:=by
  rw [e]
  show rtV _ true<=_
  unfold rtV
  cases (true&&!(sqR (msQ l).hi*sqR (msQ l).hi==(msQ l).hi*4294967296)) <;> simp only [cond_true,cond_false] <;> omega
 have h0:0<=(msT l).lo:=by
  rw [e]
  show 0<=rtV _ false
  exact r0
 exact ⟨ez,aJ.2 ⟨by omega,hl,by omega⟩,h0,hh,s,s0,hc,s1,s2⟩
theorem WM {n:Int} (h1:1<=n) (h8:n<=8):n=1\/n=2\/n=3\/n=4\/n=5\/n=6\/n=7\/n=8:=by omega
theorem RQ {a b n:Int} (ho:bg a b=true) (h0:0<=a) (h2:b<=8796093022209) (h1:1<=n) (h8:n<=8):(fP a b 1 n).e=0/\0<=(fP a b 1 n).lo:=by
 have p:=aJ.1 ho
 have b0:mn (a*1) (b*1)=a:=by unfold mn; rw [Int.mul_one,Int.mul_one,decide_eq_false (show ¬ b<a by omega)]; rfl
 have b1:mx (a*1) (b*1)=b:=by unfold mx; rw [Int.mul_one,Int.mul_one]; cases h:decide (a<b) with
  | true=>rfl
  | false=>have:=of_decide_eq_false h; show a=_; omega
 have ro:okR 1 n=true:=by unfold okR; simp only [Bool.and_eq_true,decide_eq_true_eq]; omega
 have e:fP a b 1 n=fe (a / n) (-(-b / n)):=by
  unfold fP
  rw [ho,ro,b0,b1]; rfl
 have k:(0<=a / n/\a / n<=4503599627370496)/\-4503599627370496<=-(-b / n)/\-(-b / n)<=4503599627370496:=by
  rcases WM h1 h8 with rfl|rfl|rfl|rfl|rfl|rfl|rfl|rfl <;> omega
 have et:fe (a / n) (-(-b / n))=⟨a / n,-(-b / n),0⟩:=by
  unfold fe okF
  rw [decide_eq_true (show (-4503599627370496:Int)<=a / n by omega),decide_eq_true k.1.2,decide_eq_true k.2.1,decide_eq_true k.2.2]
  rfl
 rw [e,et]
 exact ⟨rfl,k.1.1⟩
theorem Vr {s n:Rat} (h:0<=s) (hn:1<=n):0<=s / n:=by
 have q:s / n*n=s:=by grind
 by_cases g:0<=s / n
 .exact g
 .have:=Rat.mul_pos (a:=-(s / n)) (b:=n) (by grind) (by grind)
  grind
theorem IK {l:List Int} {n:Int} (hn:n=l.length) (h1:1<=l.length) (h8:l.length<=8):(msO n l).e=0/\0<=(msO n l).lo/\∃ s:Rat,0<=s/\cn (msO n l).lo (msO n l).hi (s / (n:Rat))/\s*s<=msX l/\(msX l - s*s)*((2 ^ 200:Nat):Rat)<=1:=by
 obtain ⟨_,a1,a2,a3,s,s0,hc,s1,s2⟩:=RP h1 h8
 obtain ⟨ez,l0⟩:=RQ a1 a2 a3 (n:=n) (by omega) (by omega)
 refine ⟨ez,l0,s,s0,?_,s1,s2⟩
 have h:=Ry ez hc
 have e:s*((1:Int):Rat) / (n:Rat)=s / (n:Rat):=by
  have:((1:Int):Rat)=1:=by decide +kernel
  rw [this]; grind
 rw [e] at h; exact h
theorem Vt {c s C S K n:Rat} (hn:0<n) (h1:c*c+s*s<=K) (h2:C*C+S*S<=n*n*K):(C+c)*(C+c)+(S+s)*(S+s)<=(n+1)*(n+1)*K:=by
 have q1:0<=(n*c - C)*(n*c - C):=by
  rcases nG 0 (n*c - C) with h|h
  .exact Rat.mul_nonneg h h
  .have:=Rat.mul_nonneg (a:=-(n*c - C)) (b:=-(n*c - C)) (by grind) (by grind)
   grind
 have q2:0<=(n*s - S)*(n*s - S):=by
  rcases nG 0 (n*s - S) with h|h
  .exact Rat.mul_nonneg h h
  .have:=Rat.mul_nonneg (a:=-(n*s - S)) (b:=-(n*s - S)) (by grind) (by grind)
   grind
 have n0:0<=n:=Rat.le_of_lt hn
 have m1:=Rat.mul_nonneg n0 (b:=K - (c*c+s*s)) (by grind)
 have m2:=Rat.mul_nonneg n0 m1
 have m3:=Rat.mul_nonneg n0 (b:=n*n*K - (C*C+S*S)) (by grind)
 have key:0<=n*((n+1)*(n+1)*K - ((C+c)*(C+c)+(S+s)*(S+s))):=by grind
 by_cases g:(C+c)*(C+c)+(S+s)*(S+s)<=(n+1)*(n+1)*K
 .exact g
 .have g:=Rat.not_le.1 g
  have:=Rat.mul_pos hn (b:=(C+c)*(C+c)+(S+s)*(S+s) - (n+1)*(n+1)*K) (by grind)
  grind
theorem J8 {K:Rat} (hK:∀ p:Int,rs2 1 p*rs2 1 p+rs2 0 p*rs2 0 p<=K):∀ (l:List Int) (C S n:Rat),0<n->C*C+S*S<=n*n*K->fdR 1 C l*fdR 1 C l+fdR 0 S l*fdR 0 S l<=(n+(l.length:Rat))*(n+(l.length:Rat))*K
 | [],C,S,n,_,h=>by
  have:(([]:List Int).length:Rat)=0:=by decide +kernel
  rw [this]
  show C*C+S*S<=_
  grind
 | p :: l,C,S,n,hn,h=>by
  have r:=J8 hK l (C+rs2 1 p) (S+rs2 0 p) (n+1) (by grind) (Vt hn (hK p) h)
  have e:n+1+(l.length:Rat)=n+((p :: l).length:Rat):=by
   simp only [List.length_cons]; push_cast; grind
  rw [e] at r
  exact r
theorem aaW {l:List Int} (h1:1<=l.length):msX l<=(l.length:Rat)*(l.length:Rat)*(1+60*ta):=by
 have hK:∀ p:Int,rs2 1 p*rs2 1 p+rs2 0 p*rs2 0 p<=1+60*ta:=fun p=>by
  have:=(RD p).2
  grind
 cases l with
 | nil=>cases h1
 | cons p l=>
  have r:=J8 hK l (rs2 1 p) (rs2 0 p) 1 (by decide) (by have:=hK p; grind)
  have e:1+(l.length:Rat)=((p :: l).length:Rat):=by
   simp only [List.length_cons]; push_cast; grind
  rw [e] at r
  exact r
theorem aaX {l:List Int} {n:Int} (hn:n=l.length) (h1:1<=l.length) (h8:l.length<=8):(msO n l).lo<=4294967296:=by
 obtain ⟨_,_,s,s0,hc,s1,s2⟩:=IK hn h1 h8
 have hx:=aaW h1
 have hT:0<=ta/\60*ta*4294967296*4294967296<1:=by unfold ta; decide +kernel
 have nr:(n:Rat)=(l.length:Rat):=by rw [hn]; exact Rat.intCast_natCast _
 have n1:1<=(n:Rat):=by
  have:(1:Int)<=n:=by omega
  exact_mod_cast this
 rw [<- nr] at hx
 have q:s / (n:Rat)*(n:Rat)=s:=by grind
 generalize hr:s / (n:Rat)=r at hc q
 have r0:0<=r:=by
  rw [<- hr]
  exact Vr s0 n1
 have rr:r*r<=1*1+60*ta:=by
  by_cases g:r*r<=1*1+60*ta
  .exact g
  .have g:=Rat.not_le.1 g
   have n2:0<(n:Rat)*(n:Rat):=Rat.mul_pos (by grind) (by grind)
   have:=Rat.mul_pos n2 (b:=r*r - (1*1+60*ta)) (by grind)
   have e:s*s=r*r*((n:Rat)*(n:Rat)):=by rw [<- q]; grind
   grind
 have k:=LP (A:=0) (B:=0) r0 (by decide:(0:Rat)<=1) (d:=60*ta) (by grind) rr hT.2
 by_cases g:(msO n l).lo<=4294967296
 .exact g
 .have g2:=iD (a:=4294967297) (b:=(msO n l).lo) (by omega)
  have e:((4294967297:Int):Rat)=4294967297:=by decide +kernel
  rw [e] at g2
  have:=hc.1
  grind
theorem mz1:msO ((1:Nat):Int) (List.replicate 1 0)=⟨4294967296,4294967296,0⟩:=by kernel_rfl
theorem mz2:msO ((2:Nat):Int) (List.replicate 2 0)=⟨4294967296,4294967296,0⟩:=by kernel_rfl
theorem mz3:msO ((3:Nat):Int) (List.replicate 3 0)=⟨4294967296,4294967296,0⟩:=by kernel_rfl
theorem mz4:msO ((4:Nat):Int) (List.replicate 4 0)=⟨4294967296,4294967296,0⟩:=by kernel_rfl
theorem mz5:msO ((5:Nat):Int) (List.replicate 5 0)=⟨4294967296,4294967296,0⟩:=by kernel_rfl
theorem mz6:msO ((6:Nat):Int) (List.replicate 6 0)=⟨4294967296,4294967296,0⟩:=by kernel_rfl
theorem mz7:msO ((7:Nat):Int) (List.replicate 7 0)=⟨4294967296,4294967296,0⟩:=by kernel_rfl
theorem mz8:msO ((8:Nat):Int) (List.replicate 8 0)=⟨4294967296,4294967296,0⟩:=by kernel_rfl
theorem Vu {n:Nat} (h1:1<=n) (h8:n<=8):msO (n:Int) (List.replicate n 0)=⟨4294967296,4294967296,0⟩:=by
 have:n=1\/n=2\/n=3\/n=4\/n=5\/n=6\/n=7\/n=8:=by omega
 rcases this with rfl|rfl|rfl|rfl|rfl|rfl|rfl|rfl
 .exact mz1
 .exact mz2
 .exact mz3
 .exact mz4
 .exact mz5
 .exact mz6
 .exact mz7
 .exact mz8
end Go.Vc
namespace Go.Proofs.YtbiiiloimbjpaaaDoor.K
open Go Go.Eng Go.Dg Go.Ar Go.Vc Go.Iv
noncomputable section
def Small (v:Int×Int):Prop:=-8796093022208<=v.1/\v.1<=v.2/\v.2<=8796093022208
theorem Small.ok {v:Int×Int} (h:Small v):bg v.1 v.2=true:=aJ.2 ⟨by have:=h.1; omega,h.2.1,by have:=h.2.2; omega⟩
theorem RS:∀ (l:List (Int×Int)) (s:Sp) (B:Int),(∀ v∈l,Small v)->bg s.lo s.hi=true->-B<=s.lo->s.hi<=B->B+8796093022208*l.length<=100000000000000->bg (akS mtF s l).lo (akS mtF s l).hi=true/\∀ w r,l=w :: r->akW mtF s w r
 | [],s,B,_,ho,_,_,_=>⟨ho,fun _ _ h=>by cases h⟩
 | v :: l,s,B,hs,ho,h1,h2,h3=>by
  simp only [List.length_cons] at h3
  have sv:=hs v (by simp)
  have kv:-8796093022208<=v.1/\v.1<=v.2/\v.2<=8796093022208:=sv
  have ko:=aJ.1 ho
  have ea:gW s.lo s.hi v.1 v.2=⟨s.lo+v.1,s.hi+v.2,0⟩:=Iv.add_small ho sv.ok (by omega) (by omega)
  have ez:(gW s.lo s.hi v.1 v.2).e=0:=by rw [ea]
  have r:=RS l (gW s.lo s.hi v.1 v.2) (B+8796093022208) (fun u hu=>hs u (by simp [hu])) (by rw [ea]; exact aJ.2 ⟨by show _<=s.lo+v.1; omega,by show s.lo+v.1<=s.hi+v.2; omega,by show s.hi+v.2<=_; omega⟩) (by rw [ea]; show _<=s.lo+v.1; omega) (by rw [ea]; show s.hi+v.2<=_; omega) (by push_cast at h3 ⊢; omega)
  refine ⟨r.1,fun w k h=>?_⟩
  cases h
  cases l with
  | nil=>exact ⟨⟨rfl,rfl⟩,ez⟩
  | cons x l=>exact ⟨⟨⟨rfl,rfl⟩,ez⟩,r.2 x l rfl⟩
theorem WN {n:Int} (h1:1<=n) (h8:n<=8):Go.Rd.okSc 1 n:=by
 intro _
 have e:sg 1 1=1:=by decide
 rw [e]
 omega
theorem aaY {a b n:Int} (ho:bg a b=true) (h1:1<=n) (h8:n<=8):(jN a b 1 n).e=0:=by
 rw [Go.Rd.sc_eq (WN h1 h8)]
 have p:=aJ.1 ho
 have b0:mn (a*1) (b*1)=a:=by unfold mn; rw [Int.mul_one,Int.mul_one,decide_eq_false (show ¬ b<a by omega)]; rfl
 have b1:mx (a*1) (b*1)=b:=by unfold mx; rw [Int.mul_one,Int.mul_one]; cases h:decide (a<b) with
  | true=>rfl
  | false=>have:=of_decide_eq_false h; show a=_; omega
 have ro:okR 1 n=true:=by unfold okR; simp only [Bool.and_eq_true,decide_eq_true_eq]; omega
 have e:fP a b 1 n=fe (a / n) (-(-b / n)):=by
  unfold fP
  rw [ho,ro,b0,b1]; rfl
 rw [e]
 refine aaR ?_ ?_ <;> rcases WM h1 h8 with rfl|rfl|rfl|rfl|rfl|rfl|rfl|rfl <;> omega
theorem RU {n:Nat} {l:List (Int×Int)} (hs:∀ v∈l,Small v) (hl:l.length<=8) (h1:1<=n) (h8:n<=8):akC mtF n l:=by
 cases l with
 | nil=>trivial
 | cons v l=>
  simp only [List.length_cons] at hl
  have sv:=hs v (by simp)
  have kv:-8796093022208<=v.1/\v.1<=v.2/\v.2<=8796093022208:=sv
  have r:=RS l ⟨v.1,v.2,0⟩ 8796093022208 (fun u hu=>hs u (by simp [hu])) sv.ok kv.1 kv.2.2 (by omega)
  have e:(akO mtF n (v :: l)).e=0:=aaY r.1 (by omega) (by omega)
  cases l with
  | nil=>exact e
  | cons w l=>exact ⟨r.2 w l rfl,e⟩
theorem RV:∀ (l k:List (Int×Int)),(∀ v∈l,Small v)->(∀ v∈k,Small v)->akR mtF l k
 | [],_,_,_=>by unfold akR; trivial
 | _ :: _,[],_,_=>by unfold akR; trivial
 | v :: l,w :: k,h1,h2=>by
  have r:=RV l k (fun u hu=>h1 u (by simp [hu])) (fun u hu=>h2 u (by simp [hu]))
  have o1:=(h1 v (by simp)).ok
  have o2:=(h2 w (by simp)).ok
  cases l with
  | nil=>cases k with
   | nil=>exact ⟨o1,o2⟩
   | cons x k=>exact ⟨⟨o1,o2⟩,r⟩
  | cons y l=>cases k with
   | nil=>exact ⟨⟨o1,o2⟩,r⟩
   | cons x k=>exact ⟨⟨o1,o2⟩,r⟩
theorem WO (m f:Int):∀ (l:List (Int×Int)) (s:Sp),atS mtF m f s l=fdS m s (l.map (dZ f))
 | [],_=>rfl
 | v :: l,s=>WO m f l (gW s.lo s.hi (iB m (dZ f v) D32) (iC m (dZ f v) D32))
theorem RX (m f:Int):∀ (l:List (Int×Int)) (v:Int×Int) (s:Sp),fdN m s ((v :: l).map (dZ f))->(∀ u∈v :: l,Small u)->atW mtF m f s v l
 | [],v,s,h,hs=>⟨(hs v (by simp)).ok,DR m _,h.1⟩
 | w :: l,v,s,h,hs=>⟨⟨(hs v (by simp)).ok,DR m _,h.1⟩,RX m f l w _ h.2 fun u hu=>hs u (by simp [hu])⟩
theorem Vv (m f:Int) (l:List (Int×Int)):atA mtF m f l=msA m (l.map (dZ f)):=by
 cases l with
 | nil=>rfl
 | cons v l=>exact WO m f l _
theorem aaZ {n:Nat} (f:Int) (l:List (Int×Int)) (h1:1<=n) (h8:n<=8):atO mtF n f l=msO (n:Int) (l.map (dZ f)):=by
 have e1:=Vv 1 f l
 have e0:=Vv 0 f l
 have eB1:atB mtF 1 f l=msB 1 (l.map (dZ f)):=by unfold atB msB; rw [e1]; rfl
 have eB0:atB mtF 0 f l=msB 0 (l.map (dZ f)):=by unfold atB msB; rw [e0]; rfl
 have eQ:atQ mtF f l=msQ (l.map (dZ f)):=by unfold atQ msQ; rw [eB1,eB0]; rfl
 have eT:atT mtF f l=msT (l.map (dZ f)):=by unfold atT msT; rw [eQ]; rfl
 unfold atO msO
 rw [eT]
 exact Go.Rd.sc_eq (WN (by omega) (by omega))
theorem acT {n:Nat} (f:Int) {l:List (Int×Int)} (hn:n=l.length) (h1:1<=n) (h8:n<=8) (hs:∀ v∈l,Small v):atP mtF n f l:=by
 have q1:1<=(l.map (dZ f)).length:=by rw [List.length_map]; omega
 have q8:(l.map (dZ f)).length<=8:=by rw [List.length_map]; omega
 have c:∀ m,atC mtF m f l:=fun m=>by
  obtain ⟨hN,_⟩:=RN m q1 q8
  cases l with
  | nil=>trivial
  | cons v l=>cases l with
   | nil=>exact ⟨(hs v (by simp)).ok,DR m _⟩
   | cons w l=>exact ⟨⟨(hs v (by simp)).ok,DR m _⟩,RX m f l w _ hN fun u hu=>hs u (by simp [hu])⟩
 have e1:=Vv 1 f l
 have e0:=Vv 0 f l
 have eB1:atB mtF 1 f l=msB 1 (l.map (dZ f)):=by unfold atB msB; rw [e1]; rfl
 have eB0:atB mtF 0 f l=msB 0 (l.map (dZ f)):=by unfold atB msB; rw [e0]; rfl
 have eQ:atQ mtF f l=msQ (l.map (dZ f)):=by unfold atQ msQ; rw [eB1,eB0]; rfl
 have eT:atT mtF f l=msT (l.map (dZ f)):=by unfold atT msT; rw [eQ]; rfl
 refine ⟨⟨c 1,c 0⟩,⟨?_,⟨rfl,rfl⟩,⟨rfl,rfl⟩,?_,?_⟩,?_,?_⟩
 .rw [eB1]; exact (DT 1 q1 q8).1
 .rw [eB0]; exact (DT 0 q1 q8).1
 .rw [eQ]; exact (RO q1 q8).1
 .rw [eT]; exact (RP q1 q8).1
 .rw [aaZ f l h1 h8]; exact (IK (by rw [List.length_map]; omega) q1 q8).1
def Gt:List Int->Prop
 | a :: b :: c :: d :: l=>(Small (a,b)/\Small (c,d))/\Gt l
 | []=>True
 | _=>False
theorem pu (b:Bool):∀ (n:Nat) (ys:List Int),ys.length=4*n->(aD b ys).length=n
 | 0,ys,h=>by
  obtain rfl:=List.length_eq_zero_iff.1 (by omega:ys.length=0)
  rfl
 | n+1,ys,h=>by
  match ys,h with
  | x :: y :: z :: w :: l,h=>
   have:=pu b n l (by simp only [List.length_cons] at h; omega)
   show (aD b l).length+1=n+1
   rw [this]
  | [],h=>simp at h
  | [_],h=>simp at h; omega
  | [_,_],h=>simp at h; omega
  | [_,_,_],h=>simp at h; omega
theorem iZ:∀ (b:Bool) (ys:List Int),Gt ys->∀ v∈aD b ys,Small v
 | true,x :: y :: z :: w :: l,h,v,hv=>by
  have hv:v∈(x,y) :: aD true l:=hv
  rcases List.mem_cons.1 hv with rfl|hv
  .exact h.1.1
  .exact iZ true l h.2 v hv
 | false,x :: y :: z :: w :: l,h,v,hv=>by
  have hv:v∈(z,w) :: aD false l:=hv
  rcases List.mem_cons.1 hv with rfl|hv
  .exact h.1.2
  .exact iZ false l h.2 v hv
 | _,[],_,v,hv=>by cases hv
 | _,[_],_,v,hv=>by cases hv
 | _,[_,_],_,v,hv=>by cases hv
 | _,[_,_,_],_,v,hv=>by cases hv
theorem acU {n:Nat} {f:Int} {b:Bool} {ys:List Int} (hl:ys.length=4*n) (h1:1<=n) (h8:n<=8) (hs:Gt ys) (f0:0<=f) (f1:f<=2000):muP mtF n f b ys:=by
 have st:=iZ true ys hs
 have sf:=iZ false ys hs
 have lt:=pu true n ys hl
 have lf:=pu false n ys hl
 refine ⟨⟨RV _ _ st sf,⟨RU st (by omega) h1 h8,RU sf (by omega) h1 h8,rfl,rfl⟩,rfl,rfl⟩,⟨fun h=>?_,fun _=>decide_eq_false (by omega)⟩,acT f (pu b n ys hl).symm h1 h8 (iZ b ys hs)⟩
 have:=of_decide_eq_true h
 omega
theorem Vw {f:Int} {v:Int×Int} (h:Small v) (f0:0<=f) (f1:f<=2000):dZ f v=(f*((v.1+v.2) / 2)) % D32:=by
 have k:-8796093022208<=v.1/\v.1<=v.2/\v.2<=8796093022208:=h
 have em:aaV v.1 v.2=(v.1+v.2) / 2:=by
  unfold aaV
  rw [gU (by omega) (by omega)]
  show (v.1+v.2).fdiv 2=_
  rw [Int.fdiv_eq_ediv_of_nonneg _ (by decide)]
 unfold dZ
 rw [em,RH ((v.1+v.2) / 2)]
 generalize (v.1+v.2) / 2=x
 have m0:0<=x % D32:=Int.emod_nonneg _ (by decide)
 have m1:x % D32<4294967296:=Int.emod_lt_of_pos _ (by decide)
 have p0:0<=f*(x % D32):=Int.mul_nonneg f0 m0
 have p1:f*(x % D32)<=2000*4294967296:=Int.mul_le_mul f1 (by omega) m0 (by decide)
 rw [gU (by omega) (by omega),RH,Int.mul_emod,Int.emod_emod,<- Int.mul_emod]
def hWn:List Nat->Nat->AV->Nat->Nat->Option AV
 | [],_,_,_,_=>none
 | a :: l,t',v,c,t=>match Nat.beq t t'&&Nat.beq a c with
  | true=>some v
  | false=>hWn l t' v c t
def zN (z:Nat->Int):Nat->Nat->List Int
 | 0,_=>[]
 | n+1,i=>z i :: zN z n (i+1)
def mvX (u:Int):Int:=wr (wr u*2 ^ min (Int.toNat 24) IntKind.i64.bits)
def Gu (w:Int) (z:Nat->Int):Nat->Nat->List Int
 | 0,_=>[]
 | n+1,i=>mvX (z (2*i)) :: wr (mvX (z (2*i))+w) :: wr (mvX (z (2*i+1)) - w) :: mvX (z (2*i+1)) :: Gu w z n (i+1)
def eqZ (z:Nat->Int):Nat->Nat->Prop
 | 0,_=>True
 | 1,i=>z (2*i+1)=z (2*i+1)
 | n+2,i=>z (2*i+1)=z (2*i+1)/\eqZ z (n+1) (i+1)
def eqL (z:Nat->Int) (k:Nat):Nat->Nat->Prop
 | 0,i=>decide ((i:Int)<(k:Int))=true
 | n+1,i=>(decide ((i:Int)<(k:Int))=true/\z (2*i+1)=z (2*i+1)/\(k:Int)=(k:Int))/\eqL z k n (i+1)
section
variable (G:MuF) (k:Nat) (f q:Int) (x:Bool) (l:List Int)
end
def qF (f:Int):Int:=(wr f).tmod 2001
theorem RY (zs:List Int):∀ (n i:Nat),n+i<=zs.length->zN (fun j=>zs.getD j 0) n i=(zs.drop i).take n
 | 0,_,_=>rfl
 | n+1,i,h=>by
  have r:=RY zs n (i+1) (by omega)
  show zs.getD i 0 :: zN _ n (i+1)=_
  rw [r,List.drop_eq_getElem_cons (by omega:i<zs.length),List.take_succ_cons,List.getD_eq_getElem?_getD,List.getElem?_eq_getElem (by omega)]
  rfl
theorem RZ (z:Nat->Int):∀ n i,eqZ z n i
 | 0,_=>trivial
 | 1,_=>rfl
 | n+2,i=>⟨rfl,RZ z (n+1) (i+1)⟩
theorem R3 (z:Nat->Int) (k:Nat):∀ n i,n+i<k->eqL z k n i
 | 0,i,h=>decide_eq_true (by omega)
 | n+1,i,h=>⟨⟨decide_eq_true (by omega),rfl,rfl⟩,R3 z k n (i+1) (by omega)⟩
theorem R4 {u:Int} (h0:-32768<=u) (h1:u<=32767):mvX u=u*16777216:=by
 unfold mvX
 rw [gU (x:=u) (by omega) (by omega)]
 show wr (u*16777216)=_
 exact gU (by omega) (by omega)
def shD:List Sh:=[.i .u8]
end
end Go.Proofs.YtbiiiloimbjpaaaDoor.K
