/- What is proved: MtfMoves returns true, whatever the input (part 35). No conditions beyond those of the row. -/
import Derived.Test.YtbiiiloimbjpaaaDoorPF
import Derived.Test.YtbiiiloimbjpaaaDoorPc
import Derived.Test.YtbiiiloimbjpaaaDoorPe
import Derived.Test.YtbiiiloimbjpaaaDoorPg
import Derived.Test.YtbiiiloimbjpaaaDoorPh
set_option linter.unusedVariables false
set_option linter.unusedSimpArgs false
set_option linter.unusedSectionVars false
namespace Go.Proofs.YtbiiiloimbjpaaaDoor.K
open Go Go.Eng Go.Dg Go.Ar Go.Vc Go.Iv
noncomputable section
def pt (g:Nat->Int):Nat->Nat->List Int
 | 0,_=>[]
 | n+1,i=>g (2*i) :: g (2*i) :: g (2*i+1) :: g (2*i+1) :: pt g n (i+1)
def sN:Bool->Nat
 | true=>0
 | false=>1
def phL (f:Int) (s:Nat) (g:Nat->Int):Nat->Nat->List Int
 | 0,_=>[]
 | n+1,i=>(f*g (2*i+s)) % D32 :: phL f s g n (i+1)
theorem Eg (g:Nat->Int):∀ n i,(pt g n i).length=4*n
 | 0,_=>rfl
 | n+1,i=>by
  have:=Eg g n (i+1)
  show (pt g n (i+1)).length+1+1+1+1=_
  omega
theorem KD (f:Int) (s:Nat) (g:Nat->Int):∀ n i,(phL f s g n i).length=n
 | 0,_=>rfl
 | n+1,i=>by
  have:=KD f s g n (i+1)
  show (phL f s g n (i+1)).length+1=_
  omega
theorem SN (g:Nat->Int) (h:Int->Int):∀ n i,(pt g n i).map h=pt (fun j=>h (g j)) n i
 | 0,_=>rfl
 | n+1,i=>by
  have:=SN g h n (i+1)
  show h _ :: h _ :: h _ :: h _ :: (pt g n (i+1)).map h=_
  rw [this]; rfl
theorem XC (g:Nat->Int):∀ n i,trL (pt g n i)=pt (fun j=>wr (0 - g j)) n i
 | 0,_=>rfl
 | n+1,i=>by
  have:=XC g n (i+1)
  show wr _ :: wr _ :: wr _ :: wr _ :: trL (pt g n (i+1))=_
  rw [this]; rfl
def Bd (g:Nat->Int):Prop:=∀ i,-4398046511104<=g i/\g i<=4398046511104
theorem uJ {g:Nat->Int} (hg:Bd g):∀ n i,KC (pt g n i)
 | 0,_=>trivial
 | n+1,i=>by
  have a:=hg (2*i)
  have b:=hg (2*i+1)
  exact ⟨⟨⟨by show _<=g (2*i); omega,Int.le_refl _,by show g (2*i)<=_; omega⟩,by show _<=g (2*i+1); omega,Int.le_refl _,by show g (2*i+1)<=_; omega⟩,uJ hg n (i+1)⟩
theorem KE {f:Int} (f0:0<=f) (f1:f<=2000) {g:Nat->Int} (hg:Bd g) (x:Bool):∀ n i,(aG x (pt g n i)).map (dV f)=phL f (sN x) g n i
 | 0,_=>by cases x <;> rfl
 | n+1,i=>by
  have r:=KE f0 f1 hg x n (i+1)
  have one:∀ j,dV f (g j,g j)=(f*g j) % D32:=fun j=>by
   have a:=hg j
   rw [Wl (v:=(g j,g j)) ⟨by show _<=g j; omega,Int.le_refl _,by show g j<=_; omega⟩ f0 f1]
   show (f*((g j+g j) / 2)) % D32=_
   rw [show (g j+g j) / 2=g j by omega]
  cases x with
  | true=>
   show dV f (g (2*i),g (2*i)) :: (aG true (pt g n (i+1))).map (dV f)=_
   rw [one,r]; rfl
  | false=>
   show dV f (g (2*i+1),g (2*i+1)) :: (aG false (pt g n (i+1))).map (dV f)=_
   rw [one,r]; rfl
theorem XD (f q:Int) (s:Nat) (g:Nat->Int):∀ n i,Moved (f*q) (phL f s g n i) (phL f s (fun j=>g j+q) n i)
 | 0,_=>trivial
 | n+1,i=>⟨by rw [Int.emod_emod,Int.mul_add,Int.emod_add_emod],XD f q s g n (i+1)⟩
theorem XE (f:Int) (s:Nat) (g:Nat->Int):∀ n i,Mirror (phL f s g n i) (phL f s (fun j=>-g j) n i)
 | 0,_=>trivial
 | n+1,i=>⟨by
   rw [Int.emod_emod,Int.mul_neg]
   generalize f*g (2*i+s)=a
   unfold D32
   omega,XE f s g n (i+1)⟩
theorem zX {g:Nat->Int} (hg:∀ i,-1099511627776<=g i/\g i<=1099511627776) {f q:Int} (f0:0<=f) (f1:f<=2000) (q0:-2147483648<=q) (q1:q<=2147483647) (x:Bool) {k:Nat} (k1:1<=k) (k8:k<=8):
  mvP muF k f q x (pt g k 0)/\mvV muF k f q x (pt g k 0)=true:=by
 have e1:(pt g k 0).map (fun c=>wr (c+wr q))=pt (fun j=>g j+q) k 0:=by
  rw [SN]
  congr 1
  funext j
  have:=hg j
  rw [gZ (x:=q) (by omega) (by omega),gZ (by omega) (by omega)]
 have e2:trL (pt g k 0)=pt (fun j=>-g j) k 0:=by
  rw [XC]
  congr 1
  funext j
  have:=hg j
  rw [gZ (by omega) (by omega)]
  omega
 have b0:Bd g:=fun i=>by have:=hg i; omega
 have b1:Bd fun j=>g j+q:=fun i=>by have:=hg i; show _<=g i+q/\g i+q<=_; omega
 have b2:Bd fun j=>-g j:=fun i=>by have:=hg i; show _<=-g i/\-g i<=_; omega
 have p0:=abO (n:=k) (f:=f) (b:=x) (Eg g k 0) k1 k8 (uJ b0 k 0) f0 f1
 have p1:=abO (n:=k) (f:=f) (b:=x) (Eg (fun j=>g j+q) k 0) k1 k8 (uJ b1 k 0) f0 f1
 have p2:=abO (n:=k) (f:=f) (b:=x) (Eg (fun j=>-g j) k 0) k1 k8 (uJ b2 k 0) f0 f1
 unfold mvP mvV
 rw [e1,e2]
 refine ⟨⟨p0,p1,p2⟩,?_⟩
 rw [abP k1 k8,abP k1 k8,abP k1 k8,KE f0 f1 b0,KE f0 f1 b1,KE f0 f1 b2]
 generalize sN x=s
 have l0:=KD f s g k 0
 obtain ⟨t1,t2⟩:=Wd (n:=(k:Int)) (by rw [l0]) (by omega) (by omega) (XD f q s g k 0)
 have t3:=Mv (k:Int) (by omega) (by omega) (XE f s g k 0)
 rw [t3,decide_eq_true t1,decide_eq_true t2]
 simp
theorem SQ:∀ x∈SL muF,NOk Tryd.prog glob hG x.1 x.2:=by
 intro x hx
 simp only [SL,List.mem_cons,List.not_mem_nil,or_false] at hx
 rcases hx with rfl|rfl
 .exact RP
 .exact adE
theorem Jh (H:List Nat):CtxOk (cMv muF H):=dh (oO prog_ok ext_ok SQ (fun _ h=>by cases h)) _
theorem SS (zs:List Int):∀ (n i:Nat),n+i<=zs.length->zN (fun j=>zs.getD j 0) n i=(zs.drop i).take n
 | 0,_,_=>rfl
 | n+1,i,h=>by
  have r:=SS zs n (i+1) (by omega)
  show zs.getD i 0 :: zN _ n (i+1)=_
  rw [r,List.drop_eq_getElem_cons (by omega:i<zs.length),List.take_succ_cons,List.getD_eq_getElem?_getD,List.getElem?_eq_getElem (by omega)]
  rfl
theorem SX (z:Nat->Int):∀ n i,eqZ z n i
 | 0,_=>trivial
 | 1,_=>rfl
 | n+2,i=>⟨rfl,SX z (n+1) (i+1)⟩
theorem SY (z:Nat->Int) (k:Nat):∀ n i,n+i<k->eqL z k n i
 | 0,i,h=>decide_eq_true (by omega)
 | n+1,i,h=>⟨⟨decide_eq_true (by omega),rfl,rfl⟩,SY z k n (i+1) (by omega)⟩
theorem S9 {u:Int} (h0:-32768<=u) (h1:u<=32767):mvX u=u*16777216:=by
 unfold mvX
 rw [gZ (x:=u) (by omega) (by omega)]
 show wr (u*16777216)=_
 exact gZ (by omega) (by omega)
theorem Eh {z:Nat->Int} (hz:∀ i,-32768<=z i/\z i<=32767):∀ n i,Jg 0 z n i=pt (fun j=>z j*16777216) n i
 | 0,_=>rfl
 | n+1,i=>by
  have a:=hz (2*i)
  have b:=hz (2*i+1)
  show mvX (z (2*i)) :: wr (mvX (z (2*i))+0) :: wr (mvX (z (2*i+1)) - 0) :: mvX (z (2*i+1)) :: Jg 0 z n (i+1)=_
  rw [S9 a.1 a.2,S9 b.1 b.2,gZ (by omega) (by omega),gZ (by omega) (by omega),Eh hz n (i+1),Int.add_zero,Int.sub_zero]
  rfl
theorem mvr {n:Nat} (h1:1<=n) (h:n<=30) (G:MuF) (z:Nat->Int) (f w q:Int) (x:Bool):mvL G n z f w q x=mvR G n z f q x:=by
 match n,h1,h with
 | 1,_,_=>exact ae1 G z f w q x
 | 2,_,_=>exact ae2 G z f w q x
 | 3,_,_=>exact ae3 G z f w q x
 | 4,_,_=>exact ae4 G z f w q x
 | 5,_,_=>exact ae5 G z f w q x
 | 6,_,_=>exact ae6 G z f w q x
 | 7,_,_=>exact ae7 G z f w q x
 | 8,_,_=>exact ae8 G z f w q x
 | 9,_,_=>exact ae9 G z f w q x
 | 10,_,_=>exact adH G z f w q x
 | 11,_,_=>exact adI G z f w q x
 | 12,_,_=>exact adJ G z f w q x
 | 13,_,_=>exact adK G z f w q x
 | 14,_,_=>exact adL G z f w q x
 | 15,_,_=>exact adM G z f w q x
 | 16,_,_=>exact adN G z f w q x
 | 17,_,_=>exact adO G z f w q x
 | 18,_,_=>exact adP G z f w q x
 | 19,_,_=>exact adQ G z f w q x
 | 20,_,_=>exact adR G z f w q x
 | 21,_,_=>exact adS G z f w q x
 | 22,_,_=>exact adT G z f w q x
 | 23,_,_=>exact adU G z f w q x
 | 24,_,_=>exact adV G z f w q x
 | 25,_,_=>exact adW G z f w q x
 | 26,_,_=>exact adX G z f w q x
 | 27,_,_=>exact adY G z f w q x
 | 28,_,_=>exact adZ G z f w q x
 | 29,_,_=>exact ad1 G z f w q x
 | 30,_,_=>exact ad2 G z f w q x
 | n+31,_,h=>omega
def shD:List Sh:=[.i .u8]
def GX:List Sh:=[]
def zY:List Sh:=[.i .u16,.i .i32,.b]
theorem Wm:∀ xs ws ys,xs.map Nu.isN=Sh.kindsL GX->ay (Sh.leavesL GX) xs->ws.map Nu.isN=Sh.kindsL shD->ay (Sh.leavesL shD) ws->ys.map Nu.isN=Sh.kindsL zY->ay (Sh.leavesL zY) ys->∀ (k:Nat) (zs:List Int),zs.length=2*k->(∀ z∈zs,IntKind.i16.min<=z/\z<=IntKind.i16.max) ->
  ∃ (l:Nat) (s:Bool),l<=k/\FI Tryd.prog glob (hG.push0 (wK .i16 (zs.take (2*l)))) 4 ((Sh.mkL GX xs).1++.agg (.pslice hG.size l s k :: (Sh.mkL shD ws).1) :: (Sh.mkL zY ys).1):=by
 intro xs ws ys hx _ hw _ hy hr k zs hl hz
 obtain rfl:=k0 hx
 obtain ⟨w,_,rfl,h1⟩:=kn hw; obtain rfl:=k0 h1
 obtain ⟨f,_,rfl,h1⟩:=kn hy; obtain ⟨q,_,rfl,h2⟩:=kn h1; obtain ⟨x,_,rfl,h3⟩:=kt h2; obtain rfl:=k0 h3
 have hr:IntKind.u16.has f/\IntKind.i32.has q/\True:=hr
 have hf:0<=f/\f<=65535:=hr.1
 have hq:-2147483648<=q/\q<=2147483647:=hr.2.1
 have t0:=Int.tmod_nonneg 2001 hf.1
 have t1:=Int.tmod_lt_of_pos f (b:=2001) (by decide)
 have eF:qF f=f.tmod 2001:=by unfold qF; rw [gZ (x:=f) (by omega) (by omega)]
 have f0:0<=qF f:=by omega
 have f1:qF f<=2000:=by omega
 have hz:∀ z∈zs,-32768<=z/\z<=32767:=hz
 have hb:∀ i,-32768<=zs.getD i 0/\zs.getD i 0<=32767:=fun i=>by
  rw [List.getD_eq_getElem?_getD]
  cases h:zs[i]? with
  | none=>exact ⟨by decide,by decide⟩
  | some z=>exact hz z (List.mem_of_getElem? h)
 have hg:∀ i,-1099511627776<=zs.getD i 0*16777216/\zs.getD i 0*16777216<=1099511627776:=fun i=>by have:=hb i; omega
 by_cases h30:k<=30
 .refine ⟨k,false,Nat.le_refl _,?_⟩
  rw [List.take_of_length_le (by omega)]
  by_cases h0:k=0
  .subst h0
   obtain rfl:=List.length_eq_zero_iff.1 (by omega:zs.length=0)
   obtain ⟨p,v⟩:=zX (g:=fun _=>0) (fun _=>⟨by decide,by decide⟩) f0 f1 hq.1 hq.2 x (k:=1) (Nat.le_refl _) (by decide)
   exact ⟨cMv muF [],9000,_,_,_,Jh _,rfl,rfl,ae0 muF (fun _=>0) f w q x,p,v⟩
  .have h1:1<=k:=by omega
   obtain ⟨p,v⟩:=zX hg f0 f1 hq.1 hq.2 x (k:=min k 8) (by omega) (by omega)
   rw [<- Eh hb] at p v
   have r:=mvr h1 h30 muF (fun j=>zs.getD j 0) f w q x
   unfold mvL at r
   rw [SS zs (2*k) 0 (by omega),List.drop_zero,List.take_of_length_le (by omega)] at r
   exact ⟨cMv muF [],9000,_,_,_,Jh _,rfl,rfl,r,⟨SX _ _ _,p⟩,v⟩
 .refine ⟨30,true,by omega,?_⟩
  obtain ⟨p,v⟩:=zX hg f0 f1 hq.1 hq.2 x (k:=8) (by decide) (by decide)
  rw [<- Eh hb] at p v
  have e:zN (fun j=>zs.getD j 0) 60 0=zs.take 60:=by rw [SS zs 60 0 (by omega),List.drop_zero]
  have r:=afa muF k (fun j=>zs.getD j 0) f w q x
  rw [e] at r
  exact ⟨cMv muF ad3,9000,_,_,_,Jh _,rfl,rfl,r,⟨SY _ _ _ _ (by omega),p⟩,v⟩
end
end Go.Proofs.YtbiiiloimbjpaaaDoor.K
namespace Go.Eng
open Go
noncomputable section
theorem GY {H:Type} {enc:TypeId×Value->H} {P:Program} {w:World} {base:Nat} {spare:Nat->Bool} {held:Bool} {t e:TypeId} {fuel:Nat} {cs:List Value} {x:DataW H×List MemPlace} (ht:P.underlying t=some (.array 2 e)) (hce:P.cellsOf e=1) (hl:cs.length=2)
  (h:DataW.trod enc P w base spare held fuel t cs=some x):∃ c0 c1 y0 y1 n,cs=[c0,c1]/\DataW.trod enc P w base spare held n e [c0]=some y0/\DataW.trod enc P w base spare held n e [c1]=some y1:=by
 obtain ⟨c0,c1,rfl⟩:∃ c0 c1,cs=[c0,c1]:=by
  match cs,hl with
  | [a,b],_=>exact ⟨a,b,rfl⟩
 cases fuel with
 | zero=>simp [DataW.trod] at h
 | succ n=>
  unfold DataW.trod at h
  rw [ht] at h
  have r3:List.range 2=[0,1]:=rfl
  simp [r3,hce] at h
  obtain ⟨_,h⟩:=h
  cases h0:DataW.trod enc P w base spare held n e [c0] with
  | none=>simp [h0] at h
  | some y0=>
   cases h1:DataW.trod enc P w base spare held n e [c1] with
   | none=>simp [h0,h1] at h
   | some y1=>exact ⟨c0,c1,y0,y1,n,rfl,h0,h1⟩
theorem Wn {H:Type} {enc:TypeId×Value->H} {P:Program} {w:World} {base:Nat} {spare:Nat->Bool} {held:Bool} {ik:IntKind} {fuel t e u:Nat} {v:Value} {x:DataW H×List MemPlace} (ht:P.underlying t=some (.slice e)) (he:P.underlying e=some (.array 2 u)) (hc:P.cellsOf e=2)
  (hu:P.underlying u=some (.int ik)) (cu:P.cellsOf u=1)
  (h:DataW.trod enc P w base spare held fuel t [v]=some x):∃ n zs,Lst w ik 2 v n zs/\∀ z∈zs,ik.min<=z/\z<=ik.max:=by
 rcases DataW.trod_slice ht h with ⟨h3,_⟩|⟨a,len,cap,elems,rest,n,_,h3,_,_,hl,_,hlen,hel,_,_⟩
 .cases h3
  exact ⟨0,[],⟨none,0,0,rfl,Nat.le_refl _,rfl,rfl,fun h=>absurd rfl h⟩,fun _ h=>by cases h⟩
 .cases h3
  have cell:∀ i j,i<len->j<2->∃ z,w.cell? ((a.add (i*2)).add j)=some (.int ik z)/\ik.min<=z/\z<=ik.max:=by
   intro i j hi hj
   have h4:=hel i hi
   rw [hc,List.getElem?_eq_getElem (by omega),Option.bind_eq_some_iff] at h4
   obtain ⟨cs,h5,h6⟩:=h4
   obtain ⟨_,hcl,hcs⟩:=World.cells?_some h5
   obtain ⟨c0,c1,y0,y1,m,rfl,q0,q1⟩:=GY he cu hcl h6
   obtain ⟨z0,e0,k0⟩:=DataW.trod_int hu q0
   obtain ⟨z1,e1,k1⟩:=DataW.trod_int hu q1
   cases e0; cases e1
   have r:∀ z,(Lit.int ik z).wf=true->ik.min<=z/\z<=ik.max:=fun z hz=>by
    simp only [Lit.wf,Bool.and_eq_true,decide_eq_true_eq] at hz
    exact hz
   rcases j with _|_|j
   .exact ⟨z0,by rw [hcs 0 hj]; rfl,r _ k0.2⟩
   .exact ⟨z1,by rw [hcs 1 hj]; rfl,r _ k1.2⟩
   .omega
  obtain ⟨B,N,spot⟩:=a
  have cell':∀ q,q<2*len->spot=none/\∃ z,w.cell? ⟨B,N+q,none⟩=some (.int ik z)/\ik.min<=z/\z<=ik.max:=by
   intro q hq
   have hs:spot=none:=by
    obtain ⟨z,hz,_⟩:=cell 0 0 (by omega) (by omega)
    simp only [Addr.add,Nat.zero_mul,if_true] at hz
    exact I6 hz
   subst hs
   refine ⟨rfl,?_⟩
   obtain ⟨z,hz,hr⟩:=cell (q / 2) (q % 2) (by omega) (by omega)
   refine ⟨z,?_,hr⟩
   have e:((⟨B,N,none⟩:Addr).add (q / 2*2)).add (q % 2)=⟨B,N+q,none⟩:=by
    unfold Addr.add
    split
    .split
     .have:q=0:=by omega
      subst this; rfl
     .simp only [Addr.mk.injEq,true_and,and_true]; omega
    .split
     .simp only [Addr.mk.injEq,true_and,and_true]; omega
     .simp only [Addr.mk.injEq,true_and,and_true]; omega
   rw [e] at hz
   exact hz
  refine ⟨len,(List.range (2*len)).map fun q=>(match w.cell? ⟨B,N+q,none⟩ with|some (.int _ z)=>z|_=>0),⟨some ⟨B,N,spot⟩,len,cap,rfl,hl,rfl,by simp,fun hne=>?_⟩,fun z hz=>?_⟩
  .have hpos:0<2*len:=by
    rcases Nat.eq_zero_or_pos (2*len) with h|h
    .rw [h] at hne; exact absurd rfl hne
    .exact h
   obtain rfl:=(cell' 0 hpos).1
   refine ⟨B,N,rfl,fun q hq=>?_⟩
   simp only [List.length_map,List.length_range] at hq
   obtain ⟨z,hz,_⟩:=(cell' q hq).2
   rw [hz]
   simp [List.getD_eq_getElem?_getD,hq,hz]
  .simp only [List.mem_map,List.mem_range] at hz
   obtain ⟨q,hq,rfl⟩:=hz
   obtain ⟨z,hz,hr⟩:=(cell' q hq).2
   rw [hz]
   exact hr
theorem raw_dots {H:Type} {enc:TypeId×Value->H} {P:Program} {W:World} {base:Nat} {spare:Nat->Bool} {held:Bool} {ik:IntKind} {t e u:Nat} {fs:Array Field} {f:Field} (ht:P.underlying t=some (.struct fs)) (hf:fs[0]?=some f) (hs:P.underlying f.type=some (.slice e)) (he:P.underlying e=some (.array 2 u)) (ce:P.cellsOf e=2)
  (hu:P.underlying u=some (.int ik)) (cu:P.cellsOf u=1) (off:f.offset=0) (many:1<P.cellsOf t) (cf:P.cellsOf f.type=1)
  {ts:List TypeId} {v:Value} {vs:List Value} {ds:List (DataW H)} {p:List MemPlace} (hA:DataW.TrodAll enc P W base spare held (t :: ts) (v :: vs) ds p):∃ cs last,v=.agg (last :: cs).toArray/\∃ n zs,Lst W ik 2 last n zs/\∀ z∈zs,ik.min<=z/\z<=ik.max:=by
 cases ds with
 | nil=>simp [DataW.TrodAll] at hA
 | cons d ds=>
  obtain ⟨_,_,⟨fuel,h⟩,_,_⟩:=hA
  obtain ⟨xs,n,_,_,hl,hxl,hff⟩:=DataW.trod_struct ht h
  have h3:=hff 0 f hf
  have hi:0<fs.size:=(Array.getElem?_eq_some_iff.1 hf).1
  rw [List.getElem?_eq_getElem (by omega),cf,off,List.drop_zero] at h3
  obtain ⟨last,cs,hq⟩:∃ last cs,v.cells.toList=last :: cs:=by
   match hq:v.cells.toList with
   | []=>exfalso; rw [hq] at hl; simp only [List.length_nil] at hl; omega
   | a :: l=>exact ⟨a,l,rfl⟩
  rw [hq] at h3
  refine ⟨cs,last,?_,Wn hs he ce hu cu h3⟩
  rw [<- hq]
  exact D6 (by omega)
end
end Go.Eng
