/- What is proved: MtfMoves returns true, whatever the input (part 31). No conditions beyond those of the row. -/
import Derived.Test.YtbiiiloimbjpaaaDoorPc
import Derived.Test.YtbiiiloimbjpaaaDoorPd
import Derived.KernelRfl
set_option linter.unusedVariables false
set_option linter.unusedSimpArgs false
set_option linter.unusedSectionVars false
namespace Go.Proofs.YtbiiiloimbjpaaaDoor.K
open Go Go.Eng Go.Dg Go.Ar Go.Vc
noncomputable section
def Sr (F:MtF):List (FuncId×fO):=[(17,sAt F),(14,sAk F)]
theorem Su:∀ x∈Sr mtF,NOk Tryd.prog glob hG x.1 x.2:=by
 intro x hx
 simp only [Sr,List.mem_cons,List.not_mem_nil,or_false] at hx
 rcases hx with rfl|rfl
 .exact adC
 .exact adD
def hMu (T:List Nat) (v:AV) (c t:Nat):Option AV:=match T with
 | []=>none
 | a :: l=>match Nat.beq t a with
  | true=>some v
  | false=>hMu l v c t
noncomputable def cMu (F:MtF):Ctx:=gG (mkN Tryd.prog glob hG (Sr F) [] ext) (hMu [20] (.bool false false))
theorem pu:CtxOk (cMu mtF):=dh (oO prog_ok ext_ok Su (fun _ h=>by cases h)) _
def muP (F:MtF) (n:Nat) (f:Int) (b:Bool) (ys:List Int):Prop:=akP F n (aG true ys) (aG false ys)/\((decide (f<0)=true->true=false)/\(decide (f<0)=false->decide (f>2000)=false))/\atP F n f (aG b ys)
structure MuF where
 M:Nat->Int->Bool->List Int->Prop
 A:Nat->Int->Bool->List Int->Sp
def muF:MuF:=⟨muP mtF,fun n f b ys=>atO mtF n f (aG b ys)⟩
def vMu (G:MuF):Nat->List Int->List Nu->Option (Prop×AV):=fun n ys xs=>match xs with
 | [.n f,.t b]=>match Nat.ble n 8&&(Nat.blt 0 n&&Nat.beq ys.length (4*n)) with
  | true=>some (G.M n f b ys,.tuple [.agg [.int true .i64 (G.A n f b ys).lo,.int true .i64 (G.A n f b ys).hi],.int false .i64 0])
  | false=>none
 | _=>none
def sMu (G:MuF):fO:=GN hG .i64 4 [.i .i64,.b] (vMu G)
theorem mu1 (F:MtF) (a0 b0 c0 d0 f:Int) (b:Bool):dK 5 1 ((run (cMu F) 6000).call 9 [.gslice 4 0 1 4,.int true .i64 f,.bool true b] (hG.push0 (.grown (bO .i64 [a0,b0,c0,d0]))))=some (.p (muP F 1 f b [a0,b0,c0,d0]),.tuple [.agg [.int true .i64 (atO F 1 f (aG b [a0,b0,c0,d0])).lo,.int true .i64 (atO F 1 f (aG b [a0,b0,c0,d0])).hi],.int false .i64 0]):=by kernel_rfl
theorem mu2 (F:MtF) (a0 b0 c0 d0 a1 b1 c1 d1 f:Int) (b:Bool):dK 5 1 ((run (cMu F) 6000).call 9 [.gslice 4 0 2 4,.int true .i64 f,.bool true b] (hG.push0 (.grown (bO .i64 [a0,b0,c0,d0,a1,b1,c1,d1]))))=some (.p (muP F 2 f b [a0,b0,c0,d0,a1,b1,c1,d1]),.tuple [.agg [.int true .i64 (atO F 2 f (aG b [a0,b0,c0,d0,a1,b1,c1,d1])).lo,.int true .i64 (atO F 2 f (aG b [a0,b0,c0,d0,a1,b1,c1,d1])).hi],.int false .i64 0]):=by kernel_rfl
theorem mu3 (F:MtF) (a0 b0 c0 d0 a1 b1 c1 d1 a2 b2 c2 d2 f:Int) (b:Bool):dK 5 1 ((run (cMu F) 6000).call 9 [.gslice 4 0 3 4,.int true .i64 f,.bool true b] (hG.push0 (.grown (bO .i64 [a0,b0,c0,d0,a1,b1,c1,d1,a2,b2,c2,d2]))))=some (.p (muP F 3 f b [a0,b0,c0,d0,a1,b1,c1,d1,a2,b2,c2,d2]),.tuple [.agg [.int true .i64 (atO F 3 f (aG b [a0,b0,c0,d0,a1,b1,c1,d1,a2,b2,c2,d2])).lo,.int true .i64 (atO F 3 f (aG b [a0,b0,c0,d0,a1,b1,c1,d1,a2,b2,c2,d2])).hi],.int false .i64 0]):=by kernel_rfl
theorem mu4 (F:MtF) (a0 b0 c0 d0 a1 b1 c1 d1 a2 b2 c2 d2 a3 b3 c3 d3 f:Int) (b:Bool):dK 5 1 ((run (cMu F) 6000).call 9 [.gslice 4 0 4 4,.int true .i64 f,.bool true b] (hG.push0 (.grown (bO .i64 [a0,b0,c0,d0,a1,b1,c1,d1,a2,b2,c2,d2,a3,b3,c3,d3]))))=some (.p (muP F 4 f b [a0,b0,c0,d0,a1,b1,c1,d1,a2,b2,c2,d2,a3,b3,c3,d3]),.tuple [.agg [.int true .i64 (atO F 4 f (aG b [a0,b0,c0,d0,a1,b1,c1,d1,a2,b2,c2,d2,a3,b3,c3,d3])).lo,.int true .i64 (atO F 4 f (aG b [a0,b0,c0,d0,a1,b1,c1,d1,a2,b2,c2,d2,a3,b3,c3,d3])).hi],.int false .i64 0]):=by kernel_rfl
theorem mu5 (F:MtF) (a0 b0 c0 d0 a1 b1 c1 d1 a2 b2 c2 d2 a3 b3 c3 d3 a4 b4 c4 d4 f:Int) (b:Bool):dK 5 1 ((run (cMu F) 6000).call 9 [.gslice 4 0 5 4,.int true .i64 f,.bool true b] (hG.push0 (.grown (bO .i64 [a0,b0,c0,d0,a1,b1,c1,d1,a2,b2,c2,d2,a3,b3,c3,d3,a4,b4,c4,d4]))))=some (.p (muP F 5 f b [a0,b0,c0,d0,a1,b1,c1,d1,a2,b2,c2,d2,a3,b3,c3,d3,a4,b4,c4,d4]),.tuple [.agg [.int true .i64 (atO F 5 f (aG b [a0,b0,c0,d0,a1,b1,c1,d1,a2,b2,c2,d2,a3,b3,c3,d3,a4,b4,c4,d4])).lo,.int true .i64 (atO F 5 f (aG b [a0,b0,c0,d0,a1,b1,c1,d1,a2,b2,c2,d2,a3,b3,c3,d3,a4,b4,c4,d4])).hi],.int false .i64 0]):=by kernel_rfl
theorem mu6 (F:MtF) (a0 b0 c0 d0 a1 b1 c1 d1 a2 b2 c2 d2 a3 b3 c3 d3 a4 b4 c4 d4 a5 b5 c5 d5 f:Int) (b:Bool):dK 5 1 ((run (cMu F) 6000).call 9 [.gslice 4 0 6 4,.int true .i64 f,.bool true b] (hG.push0 (.grown (bO .i64 [a0,b0,c0,d0,a1,b1,c1,d1,a2,b2,c2,d2,a3,b3,c3,d3,a4,b4,c4,d4,a5,b5,c5,d5]))))=some (.p (muP F 6 f b [a0,b0,c0,d0,a1,b1,c1,d1,a2,b2,c2,d2,a3,b3,c3,d3,a4,b4,c4,d4,a5,b5,c5,d5]),.tuple [.agg [.int true .i64 (atO F 6 f (aG b [a0,b0,c0,d0,a1,b1,c1,d1,a2,b2,c2,d2,a3,b3,c3,d3,a4,b4,c4,d4,a5,b5,c5,d5])).lo,.int true .i64 (atO F 6 f (aG b [a0,b0,c0,d0,a1,b1,c1,d1,a2,b2,c2,d2,a3,b3,c3,d3,a4,b4,c4,d4,a5,b5,c5,d5])).hi],.int false .i64 0]):=by kernel_rfl
theorem mu7 (F:MtF) (a0 b0 c0 d0 a1 b1 c1 d1 a2 b2 c2 d2 a3 b3 c3 d3 a4 b4 c4 d4 a5 b5 c5 d5 a6 b6 c6 d6 f:Int) (b:Bool):dK 5 1 ((run (cMu F) 6000).call 9 [.gslice 4 0 7 4,.int true .i64 f,.bool true b] (hG.push0 (.grown (bO .i64 [a0,b0,c0,d0,a1,b1,c1,d1,a2,b2,c2,d2,a3,b3,c3,d3,a4,b4,c4,d4,a5,b5,c5,d5,a6,b6,c6,d6]))))=some (.p (muP F 7 f b [a0,b0,c0,d0,a1,b1,c1,d1,a2,b2,c2,d2,a3,b3,c3,d3,a4,b4,c4,d4,a5,b5,c5,d5,a6,b6,c6,d6]),.tuple [.agg [.int true .i64 (atO F 7 f (aG b [a0,b0,c0,d0,a1,b1,c1,d1,a2,b2,c2,d2,a3,b3,c3,d3,a4,b4,c4,d4,a5,b5,c5,d5,a6,b6,c6,d6])).lo,.int true .i64 (atO F 7 f (aG b [a0,b0,c0,d0,a1,b1,c1,d1,a2,b2,c2,d2,a3,b3,c3,d3,a4,b4,c4,d4,a5,b5,c5,d5,a6,b6,c6,d6])).hi],.int false .i64 0]):=by kernel_rfl
theorem mu8 (F:MtF) (a0 b0 c0 d0 a1 b1 c1 d1 a2 b2 c2 d2 a3 b3 c3 d3 a4 b4 c4 d4 a5 b5 c5 d5 a6 b6 c6 d6 a7 b7 c7 d7 f:Int) (b:Bool):dK 5 1 ((run (cMu F) 6000).call 9 [.gslice 4 0 8 4,.int true .i64 f,.bool true b] (hG.push0 (.grown (bO .i64 [a0,b0,c0,d0,a1,b1,c1,d1,a2,b2,c2,d2,a3,b3,c3,d3,a4,b4,c4,d4,a5,b5,c5,d5,a6,b6,c6,d6,a7,b7,c7,d7]))))=some (.p (muP F 8 f b [a0,b0,c0,d0,a1,b1,c1,d1,a2,b2,c2,d2,a3,b3,c3,d3,a4,b4,c4,d4,a5,b5,c5,d5,a6,b6,c6,d6,a7,b7,c7,d7]),.tuple [.agg [.int true .i64 (atO F 8 f (aG b [a0,b0,c0,d0,a1,b1,c1,d1,a2,b2,c2,d2,a3,b3,c3,d3,a4,b4,c4,d4,a5,b5,c5,d5,a6,b6,c6,d6,a7,b7,c7,d7])).lo,.int true .i64 (atO F 8 f (aG b [a0,b0,c0,d0,a1,b1,c1,d1,a2,b2,c2,d2,a3,b3,c3,d3,a4,b4,c4,d4,a5,b5,c5,d5,a6,b6,c6,d6,a7,b7,c7,d7])).hi],.int false .i64 0]):=by kernel_rfl
theorem adE:NOk Tryd.prog glob hG 9 (sMu muF):=by
 refine zW Kr uH xA (fun n ys xs p v hV hp=>?_) ⟨_,Tryd.func9,rfl⟩
 unfold vMu at hV
 split at hV
 .rename_i f b
  split at hV
  .rename_i hb
   simp only [Bool.and_eq_true] at hb
   have h8:=Nat.le_of_ble_eq_true hb.1
   have hl:=Nat.eq_of_beq_eq_true hb.2.2
   cases hV
   rcases Sq h8 with rfl|rfl|rfl|rfl|rfl|rfl|rfl|rfl|rfl
   .cases hb.2.1
   .match ys,hl with
    | [a0,b0,c0,d0],_=>exact ⟨rfl,cMu mtF,6000,[.int true .i64 f,.bool true b],_,_,pu,rfl,rfl,⟨⟨rfl,rfl⟩,rfl,trivial⟩,mu1 mtF a0 b0 c0 d0 f b,hp,rfl,⟨⟨⟨rfl,rfl⟩,⟨rfl,rfl⟩,trivial⟩,⟨rfl,rfl⟩,trivial⟩⟩
   .match ys,hl with
    | [a0,b0,c0,d0,a1,b1,c1,d1],_=>exact ⟨rfl,cMu mtF,6000,[.int true .i64 f,.bool true b],_,_,pu,rfl,rfl,⟨⟨rfl,rfl⟩,rfl,trivial⟩,mu2 mtF a0 b0 c0 d0 a1 b1 c1 d1 f b,hp,rfl,⟨⟨⟨rfl,rfl⟩,⟨rfl,rfl⟩,trivial⟩,⟨rfl,rfl⟩,trivial⟩⟩
   .match ys,hl with
    | [a0,b0,c0,d0,a1,b1,c1,d1,a2,b2,c2,d2],_=>exact ⟨rfl,cMu mtF,6000,[.int true .i64 f,.bool true b],_,_,pu,rfl,rfl,⟨⟨rfl,rfl⟩,rfl,trivial⟩,mu3 mtF a0 b0 c0 d0 a1 b1 c1 d1 a2 b2 c2 d2 f b,hp,rfl,⟨⟨⟨rfl,rfl⟩,⟨rfl,rfl⟩,trivial⟩,⟨rfl,rfl⟩,trivial⟩⟩
   .match ys,hl with
    | [a0,b0,c0,d0,a1,b1,c1,d1,a2,b2,c2,d2,a3,b3,c3,d3],_=>exact ⟨rfl,cMu mtF,6000,[.int true .i64 f,.bool true b],_,_,pu,rfl,rfl,⟨⟨rfl,rfl⟩,rfl,trivial⟩,mu4 mtF a0 b0 c0 d0 a1 b1 c1 d1 a2 b2 c2 d2 a3 b3 c3 d3 f b,hp,rfl,⟨⟨⟨rfl,rfl⟩,⟨rfl,rfl⟩,trivial⟩,⟨rfl,rfl⟩,trivial⟩⟩
   .match ys,hl with
    | [a0,b0,c0,d0,a1,b1,c1,d1,a2,b2,c2,d2,a3,b3,c3,d3,a4,b4,c4,d4],_=>exact ⟨rfl,cMu mtF,6000,[.int true .i64 f,.bool true b],_,_,pu,rfl,rfl,⟨⟨rfl,rfl⟩,rfl,trivial⟩,mu5 mtF a0 b0 c0 d0 a1 b1 c1 d1 a2 b2 c2 d2 a3 b3 c3 d3 a4 b4 c4 d4 f b,hp,rfl,⟨⟨⟨rfl,rfl⟩,⟨rfl,rfl⟩,trivial⟩,⟨rfl,rfl⟩,trivial⟩⟩
   .match ys,hl with
    | [a0,b0,c0,d0,a1,b1,c1,d1,a2,b2,c2,d2,a3,b3,c3,d3,a4,b4,c4,d4,a5,b5,c5,d5],_=>exact ⟨rfl,cMu mtF,6000,[.int true .i64 f,.bool true b],_,_,pu,rfl,rfl,⟨⟨rfl,rfl⟩,rfl,trivial⟩,mu6 mtF a0 b0 c0 d0 a1 b1 c1 d1 a2 b2 c2 d2 a3 b3 c3 d3 a4 b4 c4 d4 a5 b5 c5 d5 f b,hp,rfl,⟨⟨⟨rfl,rfl⟩,⟨rfl,rfl⟩,trivial⟩,⟨rfl,rfl⟩,trivial⟩⟩
   .match ys,hl with
    | [a0,b0,c0,d0,a1,b1,c1,d1,a2,b2,c2,d2,a3,b3,c3,d3,a4,b4,c4,d4,a5,b5,c5,d5,a6,b6,c6,d6],_=>exact ⟨rfl,cMu mtF,6000,[.int true .i64 f,.bool true b],_,_,pu,rfl,rfl,⟨⟨rfl,rfl⟩,rfl,trivial⟩,mu7 mtF a0 b0 c0 d0 a1 b1 c1 d1 a2 b2 c2 d2 a3 b3 c3 d3 a4 b4 c4 d4 a5 b5 c5 d5 a6 b6 c6 d6 f b,hp,rfl,⟨⟨⟨rfl,rfl⟩,⟨rfl,rfl⟩,trivial⟩,⟨rfl,rfl⟩,trivial⟩⟩
   .match ys,hl with
    | [a0,b0,c0,d0,a1,b1,c1,d1,a2,b2,c2,d2,a3,b3,c3,d3,a4,b4,c4,d4,a5,b5,c5,d5,a6,b6,c6,d6,a7,b7,c7,d7],_=>exact ⟨rfl,cMu mtF,6000,[.int true .i64 f,.bool true b],_,_,pu,rfl,rfl,⟨⟨rfl,rfl⟩,rfl,trivial⟩,mu8 mtF a0 b0 c0 d0 a1 b1 c1 d1 a2 b2 c2 d2 a3 b3 c3 d3 a4 b4 c4 d4 a5 b5 c5 d5 a6 b6 c6 d6 a7 b7 c7 d7 f b,hp,rfl,⟨⟨⟨rfl,rfl⟩,⟨rfl,rfl⟩,trivial⟩,⟨rfl,rfl⟩,trivial⟩⟩
  .cases hV
 .cases hV
end
end Go.Proofs.YtbiiiloimbjpaaaDoor.K
namespace Go.Vc
open Go Go.Eng Go.Ar Go.Dg Go.Sn Go.Iv
def fdS (m:Int):Sp->List Int->Sp
 | s,[]=>s
 | s,p :: l=>fdS m (eU s.lo s.hi (bD m p D32) (bE m p D32)) l
def fdN (m:Int):Sp->List Int->Prop
 | _,[]=>True
 | s,p :: l=>(eU s.lo s.hi (bD m p D32) (bE m p D32)).e=0/\fdN m (eU s.lo s.hi (bD m p D32) (bE m p D32)) l
def fdR (m:Int):Rat->List Int->Rat
 | x,[]=>x
 | x,p :: l=>fdR m (x+rs2 m p) l
theorem Xv (m:Int):∀ (l:List Int) (s:Sp) (x:Rat) (B:Int),s.e=0->aS s.lo s.hi=true->-B<=s.lo->s.hi<=B->B+13000000000*l.length<=200000000000->cn s.lo s.hi x ->
  fdN m s l/\(fdS m s l).e=0/\aS (fdS m s l).lo (fdS m s l).hi=true/\-200000000000<=(fdS m s l).lo/\(fdS m s l).hi<=200000000000/\cn (fdS m s l).lo (fdS m s l).hi (fdR m x l)
 | [],s,x,B,e,ho,h1,h2,h3,hc=>⟨trivial,e,ho,by simp only [List.length_nil] at h3; show _<=s.lo; omega,by simp only [List.length_nil] at h3; show s.hi<=_; omega,hc⟩
 | p :: l,s,x,B,e,ho,h1,h2,h3,hc=>by
  simp only [List.length_cons] at h3
  obtain ⟨b,b1,b2⟩:=xJ m p
  have ea:eU s.lo s.hi (bD m p D32) (bE m p D32)=⟨s.lo+bD m p D32,s.hi+bE m p D32,0⟩:=Iv.add_small ho b (by omega) (by omega)
  have ez:(eU s.lo s.hi (bD m p D32) (bE m p D32)).e=0:=by rw [ea]
  have hc':=R6 ez hc (Jb m p)
  have r:=Xv m l (eU s.lo s.hi (bD m p D32) (bE m p D32)) (x+rs2 m p) (B+13000000000) ez (Xt ez hc') (by rw [ea]; show _<=_+_; omega) (by rw [ea]; show _+_<=_; omega) (by push_cast at h3 ⊢; omega) hc'
  exact ⟨⟨ez,r.1⟩,r.2⟩
def msA (m:Int):List Int->Sp
 | []=>⟨0,0,0⟩
 | p :: l=>fdS m ⟨bD m p D32,bE m p D32,0⟩ l
def msN (m:Int):List Int->Prop
 | []=>True
 | p :: l=>fdN m ⟨bD m p D32,bE m p D32,0⟩ l
def msR (m:Int):List Int->Rat
 | []=>0
 | p :: l=>fdR m (rs2 m p) l
def msB (m:Int) (l:List Int):Sp:=jv (msA m l).lo (msA m l).hi
def msQ (l:List Int):Sp:=eU (msB 1 l).lo (msB 1 l).hi (msB 0 l).lo (msB 0 l).hi
def msT (l:List Int):Sp:=kW (msQ l).lo (msQ l).hi
def msO (n:Int) (l:List Int):Sp:=fV (msT l).lo (msT l).hi 1 n
def msX (l:List Int):Rat:=msR 1 l*msR 1 l+msR 0 l*msR 0 l
theorem Jd (m:Int) {l:List Int} (h1:1<=l.length) (h8:l.length<=8):msN m l/\(msA m l).e=0/\aS (msA m l).lo (msA m l).hi=true/\-200000000000<=(msA m l).lo/\(msA m l).hi<=200000000000/\cn (msA m l).lo (msA m l).hi (msR m l):=by
 cases l with
 | nil=>cases h1
 | cons p l=>
  simp only [List.length_cons] at h8
  obtain ⟨b,b1,b2⟩:=xJ m p
  exact Xv m l ⟨bD m p D32,bE m p D32,0⟩ (rs2 m p) 13000000000 rfl b b1 b2 (by omega) (Jb m p)
theorem Ee (m:Int) {l:List Int} (h1:1<=l.length) (h8:l.length<=8):(msB m l).e=0/\aS (msB m l).lo (msB m l).hi=true/\0<=(msB m l).lo/\(msB m l).hi<=10000000000000/\cn (msB m l).lo (msB m l).hi (msR m l*msR m l):=by
 unfold msB
 obtain ⟨_,_,a1,a2,a3,a4⟩:=Jd m h1 h8
 obtain ⟨e,l0,l1,h0,h1⟩:=Mr (m:=10000000000000) a1 a2 a3 (by decide) (by decide) (by decide)
 have hc:=aby e a4
 have:=Ku hc
 exact ⟨e,aF.2 ⟨by omega,this,by omega⟩,l0,h1,hc⟩
theorem Sv {l:List Int} (h1:1<=l.length) (h8:l.length<=8):(msQ l).e=0/\aS (msQ l).lo (msQ l).hi=true/\0<=(msQ l).lo/\(msQ l).hi<=20000000000000/\cn (msQ l).lo (msQ l).hi (msX l):=by
 obtain ⟨_,a1,a2,a3,a4⟩:=Ee 1 h1 h8
 obtain ⟨_,b1,b2,b3,b4⟩:=Ee 0 h1 h8
 have p:=aF.1 a1
 have q:=aF.1 b1
 have e:msQ l=⟨_,_,0⟩:=Iv.add_small a1 b1 (by omega) (by omega)
 have ez:(msQ l).e=0:=by rw [e]
 have hc:=R6 ez a4 b4
 exact ⟨ez,Xt ez hc,by rw [e]; show _<=_+_; omega,by rw [e]; show _+_<=_; omega,hc⟩
theorem Sw {l:List Int} (h1:1<=l.length) (h8:l.length<=8):(msT l).e=0/\aS (msT l).lo (msT l).hi=true/\0<=(msT l).lo/\(msT l).hi<=8796093022209/\∃ s:Rat,0<=s/\cn (msT l).lo (msT l).hi s/\s*s<=msX l/\(msX l - s*s)*((2 ^ 200:Nat):Rat)<=1:=by
 obtain ⟨_,a1,a2,a3,a4⟩:=Sv h1 h8
 have e:msT l=⟨rtV (msQ l).lo false,rtV (msQ l).hi true,0⟩:=by
  unfold msT kW
  rw [a1,decide_eq_false (by omega)]; rfl
 have ez:(msT l).e=0:=by rw [e]
 obtain ⟨s,s0,hc,s1,s2⟩:=V5 ez a4 (2 ^ 200) (by decide)
 have hl:(msT l).lo<=(msT l).hi:=Ku hc
 have p:=aF.1 a1
 have k1:kP (msQ l).lo=true:=by unfold kP okF; simp only [Bool.and_eq_true,decide_eq_true_eq]; omega
 have k2:kP (msQ l).hi=true:=by unfold kP okF; simp only [Bool.and_eq_true,decide_eq_true_eq]; omega
 obtain ⟨r0,_,_,r3⟩:=kH k1
 obtain ⟨t0,_,_,t3⟩:=kH k2
 have hh:(msT l).hi<=8796093022209:=by
  rw [e]
  show rtV _ true<=_
  unfold rtV
  cases (true&&!(sqR (msQ l).hi*sqR (msQ l).hi==(msQ l).hi*4294967296)) <;> simp only [cond_true,cond_false] <;> omega
 have h0:0<=(msT l).lo:=by
  rw [e]
  show 0<=rtV _ false
  exact r0
 exact ⟨ez,aF.2 ⟨by omega,hl,by omega⟩,h0,hh,s,s0,hc,s1,s2⟩
theorem Xw {n:Int} (h1:1<=n) (h8:n<=8):n=1\/n=2\/n=3\/n=4\/n=5\/n=6\/n=7\/n=8:=by omega
theorem Sy {a b n:Int} (ho:aS a b=true) (h0:0<=a) (h2:b<=8796093022209) (h1:1<=n) (h8:n<=8):(fV a b 1 n).e=0/\0<=(fV a b 1 n).lo:=by
 have p:=aF.1 ho
 have b0:mn (a*1) (b*1)=a:=by unfold mn; rw [Int.mul_one,Int.mul_one,decide_eq_false (show ¬ b<a by omega)]; rfl
 have b1:mx (a*1) (b*1)=b:=by unfold mx; rw [Int.mul_one,Int.mul_one]; cases h:decide (a<b) with
  | true=>rfl
  | false=>have:=of_decide_eq_false h; show a=_; omega
 have ro:okR 1 n=true:=by unfold okR; simp only [Bool.and_eq_true,decide_eq_true_eq]; omega
 have e:fV a b 1 n=fw (a / n) (-(-b / n)):=by
  unfold fV
  rw [ho,ro,b0,b1]; rfl
 have k:(0<=a / n/\a / n<=4503599627370496)/\-4503599627370496<=-(-b / n)/\-(-b / n)<=4503599627370496:=by
  rcases Xw h1 h8 with rfl|rfl|rfl|rfl|rfl|rfl|rfl|rfl <;> omega
 have et:fw (a / n) (-(-b / n))=⟨a / n,-(-b / n),0⟩:=by
  unfold fw okF
  rw [decide_eq_true (show (-4503599627370496:Int)<=a / n by omega),decide_eq_true k.1.2,decide_eq_true k.2.1,decide_eq_true k.2.2]
  rfl
 rw [e,et]
 exact ⟨rfl,k.1.1⟩
theorem Kz {s n:Rat} (h:0<=s) (hn:1<=n):0<=s / n:=by
 have q:s / n*n=s:=by grind
 by_cases g:0<=s / n
 .exact g
 .have:=Rat.mul_pos (a:=-(s / n)) (b:=n) (by grind) (by grind)
  grind
theorem Je {l:List Int} {n:Int} (hn:n=l.length) (h1:1<=l.length) (h8:l.length<=8):(msO n l).e=0/\0<=(msO n l).lo/\∃ s:Rat,0<=s/\cn (msO n l).lo (msO n l).hi (s / (n:Rat))/\s*s<=msX l/\(msX l - s*s)*((2 ^ 200:Nat):Rat)<=1:=by
 obtain ⟨_,a1,a2,a3,s,s0,hc,s1,s2⟩:=Sw h1 h8
 obtain ⟨ez,l0⟩:=Sy a1 a2 a3 (n:=n) (by omega) (by omega)
 refine ⟨ez,l0,s,s0,?_,s1,s2⟩
 have h:=R8 ez hc
 have e:s*((1:Int):Rat) / (n:Rat)=s / (n:Rat):=by
  have:((1:Int):Rat)=1:=by decide +kernel
  rw [this]; grind
 rw [e] at h; exact h
theorem mul_bd {a b A B:Rat} (h1:-A<=a) (h2:a<=A) (k1:-B<=b) (k2:b<=B):-(A*B)<=a*b/\a*b<=A*B:=by
 have p1:=Rat.mul_nonneg (a:=A - a) (b:=B+b) (by grind) (by grind)
 have p2:=Rat.mul_nonneg (a:=A+a) (b:=B - b) (by grind) (by grind)
 have p3:=Rat.mul_nonneg (a:=A - a) (b:=B - b) (by grind) (by grind)
 have p4:=Rat.mul_nonneg (a:=A+a) (b:=B+b) (by grind) (by grind)
 constructor <;> grind
def Moved (q:Int):List Int->List Int->Prop
 | [],[]=>True
 | p :: l,p' :: l'=>p' % D32=(p+q) % D32/\Moved q l l'
 | _,_=>False
theorem Sz {q p p':Int} (h:p' % D32=(p+q) % D32):(-TT<=rs2 1 p' - (rs2 1 p*rs2 1 q - rs2 0 p*rs2 0 q)/\rs2 1 p' - (rs2 1 p*rs2 1 q - rs2 0 p*rs2 0 q)<=TT)/\(-TT<=rs2 0 p' - (rs2 0 p*rs2 1 q+rs2 1 p*rs2 0 q)/\rs2 0 p' - (rs2 0 p*rs2 1 q+rs2 1 p*rs2 0 q)<=TT):=by
 rw [Sj 1 h,Sj 0 h]
 have:=abK p q
 grind
theorem Xx {q:Int}:∀ (l l':List Int) (C S C' S' E:Rat),Moved q l l'->-E<=C' - (C*rs2 1 q - S*rs2 0 q)->C' - (C*rs2 1 q - S*rs2 0 q)<=E->-E<=S' - (S*rs2 1 q+C*rs2 0 q)->S' - (S*rs2 1 q+C*rs2 0 q)<=E ->
  (-(E+(l.length:Rat)*TT)<=fdR 1 C' l' - (fdR 1 C l*rs2 1 q - fdR 0 S l*rs2 0 q)/\fdR 1 C' l' - (fdR 1 C l*rs2 1 q - fdR 0 S l*rs2 0 q)<=E+(l.length:Rat)*TT)/\(-(E+(l.length:Rat)*TT)<=fdR 0 S' l' - (fdR 0 S l*rs2 1 q+fdR 1 C l*rs2 0 q)/\fdR 0 S' l' - (fdR 0 S l*rs2 1 q+fdR 1 C l*rs2 0 q)<=E+(l.length:Rat)*TT)
 | [],[],C,S,C',S',E,_,h1,h2,h3,h4=>by
  have:(([]:List Int).length:Rat)=0:=by decide +kernel
  rw [this]
  show (_<=C' - (C*rs2 1 q - S*rs2 0 q)/\_)/\(_<=S' - (S*rs2 1 q+C*rs2 0 q)/\_)
  refine ⟨⟨by grind,?_⟩,by grind,?_⟩
  .show C' - (C*rs2 1 q - S*rs2 0 q)<=_; grind
  .show S' - (S*rs2 1 q+C*rs2 0 q)<=_; grind
 | p :: l,p' :: l',C,S,C',S',E,⟨hp,hm⟩,h1,h2,h3,h4=>by
  obtain ⟨⟨a1,a2⟩,a3,a4⟩:=Sz hp
  have r:=Xx l l' (C+rs2 1 p) (S+rs2 0 p) (C'+rs2 1 p') (S'+rs2 0 p') (E+TT) hm (by grind) (by grind) (by grind) (by grind)
  have e:E+TT+(l.length:Rat)*TT=E+((p :: l).length:Rat)*TT:=by
   simp only [List.length_cons]; push_cast; grind
  rw [e] at r
  exact r
 | [],_ :: _,_,_,_,_,_,h,_,_,_,_=>h.elim
 | _ :: _,[],_,_,_,_,_,h,_,_,_,_=>h.elim
theorem Xy (m:Int) (hm:∀ p:Int,-2<=rs2 m p/\rs2 m p<=2):∀ (l:List Int) (x B:Rat),-B<=x->x<=B->-(B+2*(l.length:Rat))<=fdR m x l/\fdR m x l<=B+2*(l.length:Rat)
 | [],x,B,h1,h2=>by
  have:(([]:List Int).length:Rat)=0:=by decide +kernel
  rw [this]
  show _<=x/\x<=_
  grind
 | p :: l,x,B,h1,h2=>by
  have:=hm p
  have r:=Xy m hm l (x+rs2 m p) (B+2) (by grind) (by grind)
  have e:B+2+2*(l.length:Rat)=B+2*((p :: l).length:Rat):=by
   simp only [List.length_cons]; push_cast; grind
  rw [e] at r
  exact r
theorem Moved.len {q:Int}:∀ {l l':List Int},Moved q l l'->l'.length=l.length
 | [],[],_=>rfl
 | _ :: l,_ :: l',h=>by simp only [List.length_cons]; rw [h.2.len]
theorem KA {l:List Int} (h8:l.length<=8):0<=(l.length:Rat)/\(l.length:Rat)<=8:=by
 have k8:(l.length:Int)<=8:=by omega
 have k0:(0:Int)<=(l.length:Int):=by omega
 have h:=gI k8
 have h0:=gI k0
 rw [Rat.intCast_natCast] at h h0
 have e8:((8:Int):Rat)=8:=by decide +kernel
 have e0:((0:Int):Rat)=0:=by decide +kernel
 rw [e8] at h
 rw [e0] at h0
 exact ⟨h0,h⟩
theorem SA (m:Int) (hm:∀ p:Int,-2<=rs2 m p/\rs2 m p<=2) {l:List Int} (h8:l.length<=8):-16<=msR m l/\msR m l<=16:=by
 cases l with
 | nil=>show (-16:Rat)<=0/\(0:Rat)<=16; decide
 | cons p l=>
  have r:=Xy m hm l (rs2 m p) 2 (hm p).1 (hm p).2
  have k:=KA h8
  have e:2+2*(l.length:Rat)=2*((p :: l).length:Rat):=by
   simp only [List.length_cons]; push_cast; grind
  rw [e] at r
  show -16<=fdR m (rs2 m p) l/\fdR m (rs2 m p) l<=16
  grind
theorem aeY {q:Int} {l l':List Int} (h8:l.length<=8) (hm:Moved q l l'):(-(8*TT)<=msR 1 l' - (msR 1 l*rs2 1 q - msR 0 l*rs2 0 q)/\msR 1 l' - (msR 1 l*rs2 1 q - msR 0 l*rs2 0 q)<=8*TT)/\(-(8*TT)<=msR 0 l' - (msR 0 l*rs2 1 q+msR 1 l*rs2 0 q)/\msR 0 l' - (msR 0 l*rs2 1 q+msR 1 l*rs2 0 q)<=8*TT):=by
 have hT:0<=TT:=by unfold TT ta; decide +kernel
 match l,l',hm with
 | [],[],_=>
  show (_<=(0:Rat) - (0*rs2 1 q - 0*rs2 0 q)/\_)/\(_<=(0:Rat) - (0*rs2 1 q+0*rs2 0 q)/\_)
  refine ⟨⟨by grind,?_⟩,by grind,?_⟩
  .show (0:Rat) - (0*rs2 1 q - 0*rs2 0 q)<=_; grind
  .show (0:Rat) - (0*rs2 1 q+0*rs2 0 q)<=_; grind
 | p :: l,p' :: l',⟨hp,hm⟩=>
  obtain ⟨⟨a1,a2⟩,a3,a4⟩:=Sz hp
  have r:=Xx l l' (rs2 1 p) (rs2 0 p) (rs2 1 p') (rs2 0 p') TT hm a1 a2 a3 a4
  have k:=(KA h8).2
  have e:TT+(l.length:Rat)*TT=((p :: l).length:Rat)*TT:=by
   simp only [List.length_cons]; push_cast; grind
  rw [e] at r
  have k2:=rT k hT
  show (_<=fdR 1 (rs2 1 p') l' - (fdR 1 (rs2 1 p) l*rs2 1 q - fdR 0 (rs2 0 p) l*rs2 0 q)/\fdR 1 (rs2 1 p') l' - (fdR 1 (rs2 1 p) l*rs2 1 q - fdR 0 (rs2 0 p) l*rs2 0 q)<=_)/\(_<=fdR 0 (rs2 0 p') l' - (fdR 0 (rs2 0 p) l*rs2 1 q+fdR 1 (rs2 1 p) l*rs2 0 q)/\fdR 0 (rs2 0 p') l' - (fdR 0 (rs2 0 p) l*rs2 1 q+fdR 1 (rs2 1 p) l*rs2 0 q)<=_)
  grind
theorem SB {C S u v a b E:Rat} (E0:0<=E) (E1:E<=1) (hC:-16<=C/\C<=16) (hS:-16<=S/\S<=16) (hu:-2<=u/\u<=2) (hv:-2<=v/\v<=2) (hn:-E<=v*v+u*u - 1/\v*v+u*u - 1<=E)
  (ha:-E<=a - (C*u - S*v)/\a - (C*u - S*v)<=E) (hb:-E<=b - (S*u+C*v)/\b - (S*u+C*v)<=E):-(1000*E)<=a*a+b*b - (C*C+S*S)/\a*a+b*b - (C*C+S*S)<=1000*E:=by
 have c1:=mul_bd hC.1 hC.2 hu.1 hu.2
 have c2:=mul_bd hS.1 hS.2 hv.1 hv.2
 have c3:=mul_bd hS.1 hS.2 hu.1 hu.2
 have c4:=mul_bd hC.1 hC.2 hv.1 hv.2
 have d1:=mul_bd hC.1 hC.2 hC.1 hC.2
 have d2:=mul_bd hS.1 hS.2 hS.1 hS.2
 have e1:=mul_bd (a:=C*C+S*S) (A:=512) (by grind) (by grind) hn.1 hn.2
 generalize hx:C*u - S*v=x at ha
 generalize hy:S*u+C*v=y at hb
 have f1:=mul_bd (a:=x) (A:=64) (by grind) (by grind) ha.1 ha.2
 have f2:=mul_bd (a:=y) (A:=64) (by grind) (by grind) hb.1 hb.2
 have g1:=mul_bd ha.1 ha.2 ha.1 ha.2
 have g2:=mul_bd hb.1 hb.2 hb.1 hb.2
 have g3:=Rat.mul_nonneg E0 (b:=1 - E) (by grind)
 have k:x*x+y*y=(C*C+S*S)*(v*v+u*u):=by rw [<- hx,<- hy]; grind
 have k1:a*a+b*b=x*x+2*(x*(a - x))+(a - x)*(a - x)+(y*y+2*(y*(b - y))+(b - y)*(b - y)):=by grind
 have k2:x*x+y*y - (C*C+S*S)=(C*C+S*S)*(v*v+u*u - 1):=by rw [k]; grind
 constructor <;> grind
def EE:Rat:=8*TT
theorem Xz:0<=EE/\EE<=1/\60*ta<=EE/\(1000*EE+1 / 1606938044258990275541962092341162602522202993782792835301376)*4294967296*4294967296<1:=by unfold EE TT ta; decide +kernel
theorem aeZ {q:Int} {l l':List Int} (h8:l.length<=8) (hm:Moved q l l'):-(1000*EE)<=msX l' - msX l/\msX l' - msX l<=1000*EE:=by
 obtain ⟨E0,E1,E2,_⟩:=Xz
 have p:=GU q
 have r:=aeY h8 hm
 exact SB E0 E1 (SA 1 (fun p=>(xG p).2) h8) (SA 0 (fun p=>(xG p).1) h8) (xG q).2 (xG q).1 (by grind) r.1 r.2
theorem Wd {q:Int} {l l':List Int} {n:Int} (hn:n=l.length) (h1:1<=l.length) (h8:l.length<=8) (hm:Moved q l l'):(msO n l).lo<=(msO n l').hi/\(msO n l').lo<=(msO n l).hi:=by
 have hl:=hm.len
 obtain ⟨_,_,s,s0,hc,s1,s2⟩:=Je hn h1 h8
 obtain ⟨_,_,t,t0,hd,t1,t2⟩:=Je (l:=l') (n:=n) (by rw [hl]; exact hn) (by omega) (by omega)
 obtain ⟨x1,x2⟩:=aeZ h8 hm
 obtain ⟨E0,E1,E2,E3⟩:=Xz
 have hK:((2 ^ 200:Nat):Rat)=1606938044258990275541962092341162602522202993782792835301376:=by decide +kernel
 rw [hK] at s2 t2
 have n1:1<=(n:Rat):=by
  have:(1:Int)<=n:=by omega
  exact_mod_cast this
 have q1:s / (n:Rat)*(n:Rat)=s:=by grind
 have q2:t / (n:Rat)*(n:Rat)=t:=by grind
 have a0:0<=s / (n:Rat):=Kz s0 n1
 have b0:0<=t / (n:Rat):=Kz t0 n1
 generalize s / (n:Rat)=a at *
 generalize t / (n:Rat)=b at *
 have n2:0<(n:Rat)*(n:Rat):=Rat.mul_pos (by grind) (by grind)
 have n3:1<=(n:Rat)*(n:Rat):=by
  have:=Rat.mul_nonneg (a:=(n:Rat) - 1) (b:=(n:Rat) - 1) (by grind) (by grind)
  grind
 have near:∀ x y:Rat,x*(n:Rat)*(x*(n:Rat))<=y*(n:Rat)*(y*(n:Rat))+(1000*EE+1 / 1606938044258990275541962092341162602522202993782792835301376)->x*x<=y*y+(1000*EE+1 / 1606938044258990275541962092341162602522202993782792835301376):=by
  intro x y h
  generalize hd:1000*EE+1 / 1606938044258990275541962092341162602522202993782792835301376=d at *
  have d0:0<=d:=by rw [<- hd]; grind
  by_cases g:x*x<=y*y+d
  .exact g
  .have g:=Rat.not_le.1 g
   have w1:=Rat.mul_pos n2 (b:=x*x - (y*y+d)) (by grind)
   have w2:=Rat.mul_nonneg d0 (b:=(n:Rat)*(n:Rat) - 1) (by grind)
   grind
 subst q1 q2
 have z1:(a - b)*4294967296<1:=BQ (A:=0) (B:=0) a0 b0 (d:=1000*EE+1 / 1606938044258990275541962092341162602522202993782792835301376) (by grind) (near a b (by grind)) E3
 have z2:(b - a)*4294967296<1:=BQ (A:=0) (B:=0) b0 a0 (d:=1000*EE+1 / 1606938044258990275541962092341162602522202993782792835301376) (by grind) (near b a (by grind)) E3
 exact I9 hc hd z1 z2
def Mirror:List Int->List Int->Prop
 | [],[]=>True
 | p :: l,p' :: l'=>p' % D32=(-p) % D32/\Mirror l l'
 | _,_=>False
theorem Mirror.len:∀ {l l':List Int},Mirror l l'->l'.length=l.length
 | [],[],_=>rfl
 | _ :: l,_ :: l',h=>by simp only [List.length_cons]; rw [h.2.len]
def Ms (more q m:Int):Int:=bif (q+more) % 4==0||(q+more) % 4==1 then jy (bif (q+more) % 4==0||(q+more) % 4==2 then m else 4294967296 - m) 4294967296 else -jA (bif (q+more) % 4==0||(q+more) % 4==2 then m else 4294967296 - m) 4294967296
def Mt (more q m:Int):Int:=bif (q+more) % 4==0||(q+more) % 4==1 then jA (bif (q+more) % 4==0||(q+more) % 4==2 then m else 4294967296 - m) 4294967296 else -jy (bif (q+more) % 4==0||(q+more) % 4==2 then m else 4294967296 - m) 4294967296
theorem We {q m q' m':Int} (h:(q=0/\q'=3/\m'=4294967296 - m)\/(q=1/\q'=3/\m=0/\m'=0)\/(q=1/\q'=2/\m'=4294967296 - m)\/(q=2/\q'=2/\m=0/\m'=0)\/(q=2/\q'=1/\m'=4294967296 - m)\/(q=3/\q'=1/\m=0/\m'=0)\/(q=3/\q'=0/\m'=4294967296 - m)):
  Ms 1 q' m'=Ms 1 q m/\Mt 1 q' m'=Mt 1 q m/\Ms 0 q' m'=-Mt 0 q m/\Mt 0 q' m'=-Ms 0 q m:=by
 have e:4294967296 - (4294967296 - m)=m:=by omega
 unfold Ms Mt
 rcases h with ⟨rfl,rfl,rfl⟩|⟨rfl,rfl,rfl,rfl⟩|⟨rfl,rfl,rfl⟩|⟨rfl,rfl,rfl,rfl⟩|⟨rfl,rfl,rfl⟩|⟨rfl,rfl,rfl,rfl⟩|⟨rfl,rfl,rfl⟩
 all_goals first|decide|(refine ⟨?_,?_,?_,?_⟩ <;> simp [e])
theorem Ef {p p':Int} (h:p' % D32=(-p) % D32):bD 1 p' D32=bD 1 p D32/\bE 1 p' D32=bE 1 p D32/\bD 0 p' D32=-bE 0 p D32/\bE 0 p' D32=-bD 0 p D32:=by
 have hb:pq D32=false:=by decide
 have e0:0<=p % D32:=Int.emod_nonneg _ (by decide)
 have e1:p % D32<D32:=Int.emod_lt_of_pos _ (by decide)
 have hr:(p % D32=0/\p' % D32=0)\/(0<p % D32/\p' % D32=D32 - p % D32):=by
  unfold D32 at *; omega
 have u:∀ (more n:Int),bD more n D32=Ms more (4*(n % D32) / 4294967296) (4*(n % D32) % 4294967296)/\bE more n D32=Mt more (4*(n % D32) / 4294967296) (4*(n % D32) % 4294967296):=fun more n=>by
  unfold bD bE
  rw [hb]
  exact ⟨rfl,rfl⟩
 rw [(u 1 p).1,(u 1 p).2,(u 0 p).1,(u 0 p).2,(u 1 p').1,(u 1 p').2,(u 0 p').1,(u 0 p').2]
 generalize p' % D32=r' at *
 generalize p % D32=r at *
 clear h u
 unfold D32 at *
 rcases hr with ⟨rfl,rfl⟩|⟨h0,rfl⟩
 .decide
 .exact We (by omega)
theorem SC (a b:Int):abL (-b) (-a)=abL a b/\abH (-b) (-a)=abH a b:=by
 unfold abL abH mx
 rw [Int.neg_neg,Int.neg_neg]
 constructor
 .rcases Int.lt_trichotomy a (-b) with g|g|g
  .rw [decide_eq_true g,decide_eq_false (show ¬ -b<a by omega)]; rfl
  .rw [g]
  .rw [decide_eq_false (show ¬ a < -b by omega),decide_eq_true g]; rfl
 .rcases Int.lt_trichotomy b (-a) with g|g|g
  .rw [decide_eq_true g,decide_eq_false (show ¬ -a<b by omega)]; rfl
  .rw [g]
  .rw [decide_eq_false (show ¬ b < -a by omega),decide_eq_true g]; rfl
theorem Jf {a b:Int} (h:aS a b=true):aS (-b) (-a)=true:=by
 have:=aF.1 h
 exact aF.2 ⟨by omega,by omega,by omega⟩
theorem Wh {a b:Int} (h:aS a b=true):jv (-b) (-a)=jv a b:=by
 unfold jv
 rw [h,Jf h,(SC a b).1,(SC a b).2]
theorem SE:∀ (l l':List Int) (s:Sp),Mirror l l'->fdS 1 s l'=fdS 1 s l
 | [],[],_,_=>rfl
 | p :: l,p' :: l',s,⟨hp,hm⟩=>by
  obtain ⟨a,b,_⟩:=Ef hp
  show fdS 1 (eU s.lo s.hi (bD 1 p' D32) (bE 1 p' D32)) l'=fdS 1 (eU s.lo s.hi (bD 1 p D32) (bE 1 p D32)) l
  rw [a,b]
  exact SE l l' _ hm
 | [],_ :: _,_,h=>h.elim
 | _ :: _,[],_,h=>h.elim
theorem SF:∀ (l l':List Int) (s t:Sp) (B:Int),Mirror l l'->aS s.lo s.hi=true->-B<=s.lo->s.hi<=B->B+13000000000*l.length<=200000000000->t.lo=-s.hi->t.hi=-s.lo->(fdS 0 t l').lo=-(fdS 0 s l).hi/\(fdS 0 t l').hi=-(fdS 0 s l).lo
 | [],[],_,_,_,_,_,_,_,_,h1,h2=>⟨h1,h2⟩
 | p :: l,p' :: l',s,t,B,⟨hp,hm⟩,ho,b1,b2,b3,h1,h2=>by
  simp only [List.length_cons] at b3
  obtain ⟨_,_,c,d⟩:=Ef hp
  obtain ⟨o,k1,k2⟩:=xJ 0 p
  have ks:=aF.1 o
  have kt:=aF.1 ho
  have ea:eU s.lo s.hi (bD 0 p D32) (bE 0 p D32)=⟨s.lo+bD 0 p D32,s.hi+bE 0 p D32,0⟩:=Iv.add_small ho o (by omega) (by omega)
  have eb:eU t.lo t.hi (bD 0 p' D32) (bE 0 p' D32)=⟨t.lo+bD 0 p' D32,t.hi+bE 0 p' D32,0⟩:=Iv.add_small (by rw [h1,h2]; exact Jf ho) (by rw [c,d]; exact Jf o) (by rw [h1,c]; omega) (by rw [h2,d]; omega)
  show (fdS 0 (eU t.lo t.hi (bD 0 p' D32) (bE 0 p' D32)) l').lo=-(fdS 0 (eU s.lo s.hi (bD 0 p D32) (bE 0 p D32)) l).hi/\(fdS 0 (eU t.lo t.hi (bD 0 p' D32) (bE 0 p' D32)) l').hi=-(fdS 0 (eU s.lo s.hi (bD 0 p D32) (bE 0 p D32)) l).lo
  rw [ea,eb]
  exact SF l l' _ _ (B+13000000000) hm (aF.2 ⟨by show _<=s.lo+_; push_cast at b3; omega,by show s.lo+_<=s.hi+_; omega,by show s.hi+_<=_; push_cast at b3; omega⟩) (by show _<=s.lo+_; omega) (by show s.hi+_<=_; omega) (by push_cast at b3 ⊢; omega) (by show t.lo+_=-(s.hi+_); rw [h1,c]; omega) (by show t.hi+_=-(s.lo+_); rw [h2,d]; omega)
 | [],_ :: _,_,_,_,h,_,_,_,_,_,_=>h.elim
 | _ :: _,[],_,_,_,h,_,_,_,_,_,_=>h.elim
theorem Mv {l l':List Int} (n:Int) (h1:1<=l.length) (h8:l.length<=8) (hm:Mirror l l'):msO n l'=msO n l:=by
 obtain ⟨_,_,o,_⟩:=Jd 0 h1 h8
 have e1:msB 1 l'=msB 1 l:=by
  match l,l',hm with
  | [],[],_=>rfl
  | p :: l,p' :: l',⟨hp,hm⟩=>
   obtain ⟨a,b,_⟩:=Ef hp
   unfold msB msA
   show jv (fdS 1 ⟨bD 1 p' D32,bE 1 p' D32,0⟩ l').lo (fdS 1 ⟨bD 1 p' D32,bE 1 p' D32,0⟩ l').hi=jv (fdS 1 ⟨bD 1 p D32,bE 1 p D32,0⟩ l).lo (fdS 1 ⟨bD 1 p D32,bE 1 p D32,0⟩ l).hi
   rw [a,b,SE l l' _ hm]
 have e0:msB 0 l'=msB 0 l:=by
  match l,l',hm with
  | [],[],_=>rfl
  | p :: l,p' :: l',⟨hp,hm⟩=>
   simp only [List.length_cons] at h8
   obtain ⟨_,_,c,d⟩:=Ef hp
   obtain ⟨o',k1,k2⟩:=xJ 0 p
   obtain ⟨x,y⟩:=SF l l' ⟨bD 0 p D32,bE 0 p D32,0⟩ ⟨bD 0 p' D32,bE 0 p' D32,0⟩ 13000000000 hm o' k1 k2 (by omega) c d
   unfold msB
   have o:aS (fdS 0 ⟨bD 0 p D32,bE 0 p D32,0⟩ l).lo (fdS 0 ⟨bD 0 p D32,bE 0 p D32,0⟩ l).hi=true:=o
   show jv (fdS 0 ⟨bD 0 p' D32,bE 0 p' D32,0⟩ l').lo (fdS 0 ⟨bD 0 p' D32,bE 0 p' D32,0⟩ l').hi=jv (fdS 0 ⟨bD 0 p D32,bE 0 p D32,0⟩ l).lo (fdS 0 ⟨bD 0 p D32,bE 0 p D32,0⟩ l).hi
   rw [x,y,Wh o]
 unfold msO msT msQ
 rw [e1,e0]
end Go.Vc
namespace Go.Proofs.YtbiiiloimbjpaaaDoor.K
open Go Go.Eng Go.Dg Go.Ar Go.Vc Go.Iv
noncomputable section
def Small (v:Int×Int):Prop:=-8796093022208<=v.1/\v.1<=v.2/\v.2<=8796093022208
theorem Small.ok {v:Int×Int} (h:Small v):aS v.1 v.2=true:=aF.2 ⟨by have:=h.1; omega,h.2.1,by have:=h.2.2; omega⟩
theorem SG:∀ (l:List (Int×Int)) (s:Sp) (B:Int),(∀ v∈l,Small v)->aS s.lo s.hi=true->-B<=s.lo->s.hi<=B->B+8796093022208*l.length<=100000000000000->aS (akS mtF s l).lo (akS mtF s l).hi=true/\∀ w r,l=w :: r->akW mtF s w r
 | [],s,B,_,ho,_,_,_=>⟨ho,fun _ _ h=>by cases h⟩
 | v :: l,s,B,hs,ho,h1,h2,h3=>by
  simp only [List.length_cons] at h3
  have sv:=hs v (by simp)
  have kv:-8796093022208<=v.1/\v.1<=v.2/\v.2<=8796093022208:=sv
  have ko:=aF.1 ho
  have ea:eU s.lo s.hi v.1 v.2=⟨s.lo+v.1,s.hi+v.2,0⟩:=Iv.add_small ho sv.ok (by omega) (by omega)
  have ez:(eU s.lo s.hi v.1 v.2).e=0:=by rw [ea]
  have r:=SG l (eU s.lo s.hi v.1 v.2) (B+8796093022208) (fun u hu=>hs u (by simp [hu])) (by rw [ea]; exact aF.2 ⟨by show _<=s.lo+v.1; omega,by show s.lo+v.1<=s.hi+v.2; omega,by show s.hi+v.2<=_; omega⟩) (by rw [ea]; show _<=s.lo+v.1; omega) (by rw [ea]; show s.hi+v.2<=_; omega) (by push_cast at h3 ⊢; omega)
  refine ⟨r.1,fun w k h=>?_⟩
  cases h
  cases l with
  | nil=>exact ⟨⟨rfl,rfl⟩,ez⟩
  | cons x l=>exact ⟨⟨⟨rfl,rfl⟩,ez⟩,r.2 x l rfl⟩
theorem XA {n:Int} (h1:1<=n) (h8:n<=8):Go.Rd.okSc 1 n:=by
 intro _
 have e:sg 1 1=1:=by decide
 rw [e]
 omega
theorem abN {a b n:Int} (ho:aS a b=true) (h1:1<=n) (h8:n<=8):(jQ a b 1 n).e=0:=by
 rw [Go.Rd.sc_eq (XA h1 h8)]
 have p:=aF.1 ho
 have b0:mn (a*1) (b*1)=a:=by unfold mn; rw [Int.mul_one,Int.mul_one,decide_eq_false (show ¬ b<a by omega)]; rfl
 have b1:mx (a*1) (b*1)=b:=by unfold mx; rw [Int.mul_one,Int.mul_one]; cases h:decide (a<b) with
  | true=>rfl
  | false=>have:=of_decide_eq_false h; show a=_; omega
 have ro:okR 1 n=true:=by unfold okR; simp only [Bool.and_eq_true,decide_eq_true_eq]; omega
 have e:fV a b 1 n=fw (a / n) (-(-b / n)):=by
  unfold fV
  rw [ho,ro,b0,b1]; rfl
 rw [e]
 refine abB ?_ ?_ <;> rcases Xw h1 h8 with rfl|rfl|rfl|rfl|rfl|rfl|rfl|rfl <;> omega
theorem SH {n:Nat} {l:List (Int×Int)} (hs:∀ v∈l,Small v) (hl:l.length<=8) (h1:1<=n) (h8:n<=8):akC mtF n l:=by
 cases l with
 | nil=>trivial
 | cons v l=>
  simp only [List.length_cons] at hl
  have sv:=hs v (by simp)
  have kv:-8796093022208<=v.1/\v.1<=v.2/\v.2<=8796093022208:=sv
  have r:=SG l ⟨v.1,v.2,0⟩ 8796093022208 (fun u hu=>hs u (by simp [hu])) sv.ok kv.1 kv.2.2 (by omega)
  have e:(akO mtF n (v :: l)).e=0:=abN r.1 (by omega) (by omega)
  cases l with
  | nil=>exact e
  | cons w l=>exact ⟨r.2 w l rfl,e⟩
theorem SI:∀ (l k:List (Int×Int)),(∀ v∈l,Small v)->(∀ v∈k,Small v)->akR mtF l k
 | [],_,_,_=>by unfold akR; trivial
 | _ :: _,[],_,_=>by unfold akR; trivial
 | v :: l,w :: k,h1,h2=>by
  have r:=SI l k (fun u hu=>h1 u (by simp [hu])) (fun u hu=>h2 u (by simp [hu]))
  have o1:=(h1 v (by simp)).ok
  have o2:=(h2 w (by simp)).ok
  cases l with
  | nil=>cases k with
   | nil=>exact ⟨o1,o2⟩
   | cons x k=>exact ⟨⟨o1,o2⟩,r⟩
  | cons y l=>cases k with
   | nil=>exact ⟨⟨o1,o2⟩,r⟩
   | cons x k=>exact ⟨⟨o1,o2⟩,r⟩
theorem XB (m f:Int):∀ (l:List (Int×Int)) (s:Sp),atS mtF m f s l=fdS m s (l.map (dV f))
 | [],_=>rfl
 | v :: l,s=>XB m f l (eU s.lo s.hi (bD m (dV f v) D32) (bE m (dV f v) D32))
theorem SK (m f:Int):∀ (l:List (Int×Int)) (v:Int×Int) (s:Sp),fdN m s ((v :: l).map (dV f))->(∀ u∈v :: l,Small u)->atW mtF m f s v l
 | [],v,s,h,hs=>⟨(hs v (by simp)).ok,Ed m _,h.1⟩
 | w :: l,v,s,h,hs=>⟨⟨(hs v (by simp)).ok,Ed m _,h.1⟩,SK m f l w _ h.2 fun u hu=>hs u (by simp [hu])⟩
theorem Wj (m f:Int) (l:List (Int×Int)):atA mtF m f l=msA m (l.map (dV f)):=by
 cases l with
 | nil=>rfl
 | cons v l=>exact XB m f l _
theorem adF {n:Nat} (f:Int) (l:List (Int×Int)) (h1:1<=n) (h8:n<=8):atO mtF n f l=msO (n:Int) (l.map (dV f)):=by
 have e1:=Wj 1 f l
 have e0:=Wj 0 f l
 have eB1:atB mtF 1 f l=msB 1 (l.map (dV f)):=by unfold atB msB; rw [e1]; rfl
 have eB0:atB mtF 0 f l=msB 0 (l.map (dV f)):=by unfold atB msB; rw [e0]; rfl
 have eQ:atQ mtF f l=msQ (l.map (dV f)):=by unfold atQ msQ; rw [eB1,eB0]; rfl
 have eT:atT mtF f l=msT (l.map (dV f)):=by unfold atT msT; rw [eQ]; rfl
 unfold atO msO
 rw [eT]
 exact Go.Rd.sc_eq (XA (by omega) (by omega))
theorem adG {n:Nat} (f:Int) {l:List (Int×Int)} (hn:n=l.length) (h1:1<=n) (h8:n<=8) (hs:∀ v∈l,Small v):atP mtF n f l:=by
 have q1:1<=(l.map (dV f)).length:=by rw [List.length_map]; omega
 have q8:(l.map (dV f)).length<=8:=by rw [List.length_map]; omega
 have c:∀ m,atC mtF m f l:=fun m=>by
  obtain ⟨hN,_⟩:=Jd m q1 q8
  cases l with
  | nil=>trivial
  | cons v l=>cases l with
   | nil=>exact ⟨(hs v (by simp)).ok,Ed m _⟩
   | cons w l=>exact ⟨⟨(hs v (by simp)).ok,Ed m _⟩,SK m f l w _ hN fun u hu=>hs u (by simp [hu])⟩
 have e1:=Wj 1 f l
 have e0:=Wj 0 f l
 have eB1:atB mtF 1 f l=msB 1 (l.map (dV f)):=by unfold atB msB; rw [e1]; rfl
 have eB0:atB mtF 0 f l=msB 0 (l.map (dV f)):=by unfold atB msB; rw [e0]; rfl
 have eQ:atQ mtF f l=msQ (l.map (dV f)):=by unfold atQ msQ; rw [eB1,eB0]; rfl
 have eT:atT mtF f l=msT (l.map (dV f)):=by unfold atT msT; rw [eQ]; rfl
 refine ⟨⟨c 1,c 0⟩,⟨?_,⟨rfl,rfl⟩,⟨rfl,rfl⟩,?_,?_⟩,?_,?_⟩
 .rw [eB1]; exact (Ee 1 q1 q8).1
 .rw [eB0]; exact (Ee 0 q1 q8).1
 .rw [eQ]; exact (Sv q1 q8).1
 .rw [eT]; exact (Sw q1 q8).1
 .rw [adF f l h1 h8]; exact (Je (by rw [List.length_map]; omega) q1 q8).1
def KC:List Int->Prop
 | a :: b :: c :: d :: l=>(Small (a,b)/\Small (c,d))/\KC l
 | []=>True
 | _=>False
theorem uI (b:Bool):∀ (n:Nat) (ys:List Int),ys.length=4*n->(aG b ys).length=n
 | 0,ys,h=>by
  obtain rfl:=List.length_eq_zero_iff.1 (by omega:ys.length=0)
  rfl
 | n+1,ys,h=>by
  match ys,h with
  | x :: y :: z :: w :: l,h=>
   have:=uI b n l (by simp only [List.length_cons] at h; omega)
   show (aG b l).length+1=n+1
   rw [this]
  | [],h=>simp at h
  | [_],h=>simp at h; omega
  | [_,_],h=>simp at h; omega
  | [_,_,_],h=>simp at h; omega
theorem kM:∀ (b:Bool) (ys:List Int),KC ys->∀ v∈aG b ys,Small v
 | true,x :: y :: z :: w :: l,h,v,hv=>by
  have hv:v∈(x,y) :: aG true l:=hv
  rcases List.mem_cons.1 hv with rfl|hv
  .exact h.1.1
  .exact kM true l h.2 v hv
 | false,x :: y :: z :: w :: l,h,v,hv=>by
  have hv:v∈(z,w) :: aG false l:=hv
  rcases List.mem_cons.1 hv with rfl|hv
  .exact h.1.2
  .exact kM false l h.2 v hv
 | _,[],_,v,hv=>by cases hv
 | _,[_],_,v,hv=>by cases hv
 | _,[_,_],_,v,hv=>by cases hv
 | _,[_,_,_],_,v,hv=>by cases hv
theorem abO {n:Nat} {f:Int} {b:Bool} {ys:List Int} (hl:ys.length=4*n) (h1:1<=n) (h8:n<=8) (hs:KC ys) (f0:0<=f) (f1:f<=2000):muP mtF n f b ys:=by
 have st:=kM true ys hs
 have sf:=kM false ys hs
 have lt:=uI true n ys hl
 have lf:=uI false n ys hl
 refine ⟨⟨SI _ _ st sf,⟨SH st (by omega) h1 h8,SH sf (by omega) h1 h8,rfl,rfl⟩,rfl,rfl⟩,⟨fun h=>?_,fun _=>decide_eq_false (by omega)⟩,adG f (uI b n ys hl).symm h1 h8 (kM b ys hs)⟩
 have:=of_decide_eq_true h
 omega
theorem abP {n:Nat} {f:Int} {b:Bool} {ys:List Int} (h1:1<=n) (h8:n<=8):muF.A n f b ys=msO (n:Int) ((aG b ys).map (dV f)):=adF f _ h1 h8
theorem Wl {f:Int} {v:Int×Int} (h:Small v) (f0:0<=f) (f1:f<=2000):dV f v=(f*((v.1+v.2) / 2)) % D32:=by
 have k:-8796093022208<=v.1/\v.1<=v.2/\v.2<=8796093022208:=h
 have em:abM v.1 v.2=(v.1+v.2) / 2:=by
  unfold abM
  rw [gZ (by omega) (by omega)]
  show (v.1+v.2).fdiv 2=_
  rw [Int.fdiv_eq_ediv_of_nonneg _ (by decide)]
 unfold dV
 rw [em,Sl ((v.1+v.2) / 2)]
 generalize (v.1+v.2) / 2=x
 have m0:0<=x % D32:=Int.emod_nonneg _ (by decide)
 have m1:x % D32<4294967296:=Int.emod_lt_of_pos _ (by decide)
 have p0:0<=f*(x % D32):=Int.mul_nonneg f0 m0
 have p1:f*(x % D32)<=2000*4294967296:=Int.mul_le_mul f1 (by omega) m0 (by decide)
 rw [gZ (by omega) (by omega),Sl,Int.mul_emod,Int.emod_emod,<- Int.mul_emod]
end
end Go.Proofs.YtbiiiloimbjpaaaDoor.K
