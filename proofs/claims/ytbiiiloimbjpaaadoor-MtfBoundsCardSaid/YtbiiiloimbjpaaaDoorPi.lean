/- What is proved: MtfBounds returns true, whatever the input (part 35). No conditions beyond those of the row. -/
import Derived.Test.YtbiiiloimbjpaaaDoorPF
import Derived.Test.YtbiiiloimbjpaaaDoorPc
import Derived.Test.YtbiiiloimbjpaaaDoorPe
import Derived.Test.YtbiiiloimbjpaaaDoorPg
import Derived.Test.YtbiiiloimbjpaaaDoorPh
set_option linter.unusedVariables false
set_option linter.unusedSimpArgs false
set_option linter.unusedSectionVars false
namespace Go.Proofs.YtbiiiloimbjpaaaDoor.K
open Go Go.Eng Go.Dg Go.Ar Go.Vc Go.Iv
noncomputable section
def bdF:BdF:=⟨muP mtF,fun n f b ys=>atP mtF n f (aD b ys),fun n ys=>akP mtF n (aD true ys) (aD false ys),fun n f b ys=>atO mtF n f (aD b ys)⟩
theorem R6:∀ x∈R5 bdF,NOk Tryd.prog glob hG x.1 x.2:=by
 intro x hx
 simp only [R5,List.mem_cons,List.not_mem_nil,or_false] at hx
 rcases hx with rfl|rfl|rfl|rfl
 .exact Rj
 .exact acS
 .exact WJ
 .exact WK
theorem IL (k:Nat) (H:List Nat):CtxOk (cBd bdF k H):=cO (oN prog_ok ext_ok R6 (fun _ h=>by cases h)) _
theorem zF (w:Int) (z:Nat->Int):∀ n i,(Gu w z n i).length=4*n
 | 0,_=>rfl
 | n+1,i=>by
  have:=zF w z n (i+1)
  show (Gu w z n (i+1)).length+1+1+1+1=_
  omega
theorem rJ {w:Int} (w0:0<=w) (w1:w<=8) {z:Nat->Int} (hz:∀ i,-32768<=z i/\z i<=32767):∀ n i,Gt (Gu w z n i)
 | 0,_=>trivial
 | n+1,i=>by
  have a:=hz (2*i)
  have b:=hz (2*i+1)
  refine ⟨⟨?_,?_⟩,rJ w0 w1 hz n (i+1)⟩
  .unfold Small
   show _<=mvX (z (2*i))/\mvX (z (2*i))<=wr (mvX (z (2*i))+w)/\wr (mvX (z (2*i))+w)<=_
   rw [R4 a.1 a.2,gU (by omega) (by omega)]
   omega
  .unfold Small
   show _<=wr (mvX (z (2*i+1)) - w)/\wr (mvX (z (2*i+1)) - w)<=mvX (z (2*i+1))/\mvX (z (2*i+1))<=_
   rw [R4 b.1 b.2,gU (by omega) (by omega)]
   omega
theorem J9:∀ l:List (Int×Int),(∀ v∈l,Small v)->l.map (dZ 0)=List.replicate l.length 0
 | [],_=>rfl
 | v :: l,h=>by
  have r:=J9 l fun u hu=>h u (by simp [hu])
  rw [List.map_cons,Vw (h v (by simp)) (by decide) (by decide),Int.zero_mul,r]
  rfl
theorem zI {l:List Int} {k:Nat} (hl:l.length=4*k) (k1:1<=k) (k8:k<=8) (hs:Gt l) {f:Int} (f0:0<=f) (f1:f<=2000) (x:Bool):bdP bdF k f x l/\bdV bdF k f x l=true:=by
 have e0:wr (0*f)=0:=by rw [Int.zero_mul]; rfl
 have e1:wr (1*f)=f:=by rw [Int.one_mul,gU (by omega) (by omega)]
 have e2:wr (f*1)=f:=by rw [Int.mul_one,gU (by omega) (by omega)]
 have sl:=pu x k l hl
 have sm:=iZ x l hs
 have p0:=acU (n:=k) (f:=0) (b:=x) hl k1 k8 hs (by decide) (by decide)
 have p1:=acU (n:=k) (f:=f) (b:=x) hl k1 k8 hs f0 f1
 have a0:bdF.A k 0 x l=⟨4294967296,4294967296,0⟩:=by
  show atO mtF k 0 (aD x l)=_
  rw [aaZ 0 _ k1 k8,J9 _ sm,sl]
  exact Vu k1 k8
 have a1:bdF.A k f x l=msO (k:Int) ((aD x l).map (dZ f)):=aaZ f _ k1 k8
 have ln:((aD x l).map (dZ f)).length=k:=by rw [List.length_map,sl]
 obtain ⟨_,q0,s,_,q1,_⟩:=IK (l:=(aD x l).map (dZ f)) (n:=(k:Int)) (by rw [ln]) (by omega) (by omega)
 have q2:=aaX (l:=(aD x l).map (dZ f)) (n:=(k:Int)) (by rw [ln]) (by omega) (by omega)
 have q3:=Gs q1
 unfold bdP bdV
 rw [e0,e1,e2]
 refine ⟨⟨p0,p1,p0.1,⟨fun h=>?_,fun _=>⟨fun h=>?_,fun _=>decide_eq_false (by omega)⟩⟩,p0.2.2,p1.2.2⟩,?_⟩
 .have:=of_decide_eq_true h; omega
 .have:=of_decide_eq_true h; omega
 .rw [a0,a1,decide_eq_true q2,decide_eq_true q0,decide_eq_true q3]
  simp
theorem bdr {n:Nat} (h1:1<=n) (h:n<=30) (G:BdF) (z:Nat->Int) (f w:Int) (x:Bool):bdL G n z f w x=bdR G n z f w x:=by
 match n,h1,h with
 | 1,_,_=>exact aef G z f w x
 | 2,_,_=>exact aeg G z f w x
 | 3,_,_=>exact aeh G z f w x
 | 4,_,_=>exact aei G z f w x
 | 5,_,_=>exact aej G z f w x
 | 6,_,_=>exact aek G z f w x
 | 7,_,_=>exact ael G z f w x
 | 8,_,_=>exact aem G z f w x
 | 9,_,_=>exact aen G z f w x
 | 10,_,_=>exact acV G z f w x
 | 11,_,_=>exact acW G z f w x
 | 12,_,_=>exact acX G z f w x
 | 13,_,_=>exact acY G z f w x
 | 14,_,_=>exact acZ G z f w x
 | 15,_,_=>exact ac0 G z f w x
 | 16,_,_=>exact ac1 G z f w x
 | 17,_,_=>exact ac2 G z f w x
 | 18,_,_=>exact ac3 G z f w x
 | 19,_,_=>exact ac4 G z f w x
 | 20,_,_=>exact ac5 G z f w x
 | 21,_,_=>exact ac6 G z f w x
 | 22,_,_=>exact ac7 G z f w x
 | 23,_,_=>exact ac8 G z f w x
 | 24,_,_=>exact ac9 G z f w x
 | 25,_,_=>exact ada G z f w x
 | 26,_,_=>exact adb G z f w x
 | 27,_,_=>exact adc G z f w x
 | 28,_,_=>exact ade G z f w x
 | 29,_,_=>exact adf G z f w x
 | 30,_,_=>exact adg G z f w x
 | n+31,_,h=>omega
def Gv:List Sh:=[]
def zJ:List Sh:=[.i .u16,.b]
theorem Vx:∀ xs ws ys,xs.map Nu.isN=Sh.kindsL Gv->ay (Sh.leavesL Gv) xs->ws.map Nu.isN=Sh.kindsL shD->ay (Sh.leavesL shD) ws->ys.map Nu.isN=Sh.kindsL zJ->ay (Sh.leavesL zJ) ys->∀ (k:Nat) (zs:List Int),zs.length=2*k->(∀ z∈zs,IntKind.i16.min<=z/\z<=IntKind.i16.max) ->
  ∃ (l:Nat) (s:Bool),l<=k/\Fe Tryd.prog glob (hG.push0 (tX .i16 (zs.take (2*l)))) 3 ((Sh.mkL Gv xs).1++.agg (.pslice hG.size l s k :: (Sh.mkL shD ws).1) :: (Sh.mkL zJ ys).1):=by
 intro xs ws ys hx _ hw hwr hy hr k zs hl hz
 obtain rfl:=k0 hx
 obtain ⟨w,_,rfl,h1⟩:=kn hw; obtain rfl:=k0 h1
 obtain ⟨f,_,rfl,h1⟩:=kn hy; obtain ⟨x,_,rfl,h3⟩:=kt h1; obtain rfl:=k0 h3
 have hr:IntKind.u16.has f/\True:=hr
 have hf:0<=f/\f<=65535:=hr.1
 have hwr:IntKind.u8.has w/\True:=hwr
 have hw:0<=w/\w<=255:=hwr.1
 have t0:=Int.tmod_nonneg 2001 hf.1
 have t1:=Int.tmod_lt_of_pos f (b:=2001) (by decide)
 have u0:=Int.tmod_nonneg 8 hw.1
 have u1:=Int.tmod_lt_of_pos w (b:=8) (by decide)
 have eF:qF f=f.tmod 2001:=by unfold qF; rw [gU (x:=f) (by omega) (by omega)]
 have eW:wD w=w.tmod 8:=by unfold wD; rw [gU (by omega) (by omega)]
 have f0:0<=qF f:=by omega
 have f1:qF f<=2000:=by omega
 have w0:0<=wD w:=by omega
 have w1:wD w<=8:=by omega
 have hz:∀ z∈zs,-32768<=z/\z<=32767:=hz
 have hb:∀ i,-32768<=zs.getD i 0/\zs.getD i 0<=32767:=fun i=>by
  rw [List.getD_eq_getElem?_getD]
  cases h:zs[i]? with
  | none=>exact ⟨by decide,by decide⟩
  | some z=>exact hz z (List.mem_of_getElem? h)
 by_cases h30:k<=30
 .refine ⟨k,false,Nat.le_refl _,?_⟩
  rw [List.take_of_length_le (by omega)]
  by_cases h0:k=0
  .subst h0
   obtain rfl:=List.length_eq_zero_iff.1 (by omega:zs.length=0)
   obtain ⟨p,v⟩:=zI (l:=[0,0,0,0]) (k:=1) rfl (Nat.le_refl _) (by decide) ⟨⟨by unfold Small; decide,by unfold Small; decide⟩,trivial⟩ f0 f1 x
   exact ⟨cBd bdF 102 [],9000,_,_,_,IL _ _,rfl,rfl,aee bdF (fun _=>0) f w x,p,v⟩
  .have h1:1<=k:=by omega
   obtain ⟨p,v⟩:=zI (zF (wD w) (fun j=>zs.getD j 0) (min k 8) 0) (by omega) (by omega) (rJ w0 w1 hb _ _) f0 f1 x
   have r:=bdr h1 h30 bdF (fun j=>zs.getD j 0) f w x
   unfold bdL at r
   rw [RY zs (2*k) 0 (by omega),List.drop_zero,List.take_of_length_le (by omega)] at r
   exact ⟨cBd bdF (101+46*k) [],9000,_,_,_,IL _ _,rfl,rfl,r,⟨RZ _ _ _,p⟩,v⟩
 .refine ⟨30,true,by omega,?_⟩
  obtain ⟨p,v⟩:=zI (zF (wD w) (fun j=>zs.getD j 0) 8 0) (by decide) (by decide) (rJ w0 w1 hb _ _) f0 f1 x
  have e:zN (fun j=>zs.getD j 0) 60 0=zs.take 60:=by rw [RY zs 60 0 (by omega),List.drop_zero]
  have r:=aeo bdF k (fun j=>zs.getD j 0) f w x
  rw [e] at r
  exact ⟨cBd bdF 1481 adh,9000,_,_,_,IL _ _,rfl,rfl,r,⟨R3 _ _ _ _ (by omega),p⟩,v⟩
end
end Go.Proofs.YtbiiiloimbjpaaaDoor.K
namespace Go.Eng
open Go
noncomputable section
theorem Gw {H:Type} {enc:TypeId×Value->H} {P:Program} {w:World} {base:Nat} {spare:Nat->Bool} {held:Bool} {t e:TypeId} {fuel:Nat} {cs:List Value} {x:DataW H×List MemPlace} (ht:P.underlying t=some (.array 2 e)) (hce:P.cellsOf e=1) (hl:cs.length=2)
  (h:DataW.trod enc P w base spare held fuel t cs=some x):∃ c0 c1 y0 y1 n,cs=[c0,c1]/\DataW.trod enc P w base spare held n e [c0]=some y0/\DataW.trod enc P w base spare held n e [c1]=some y1:=by
 obtain ⟨c0,c1,rfl⟩:∃ c0 c1,cs=[c0,c1]:=by
  match cs,hl with
  | [a,b],_=>exact ⟨a,b,rfl⟩
 cases fuel with
 | zero=>simp [DataW.trod] at h
 | succ n=>
  unfold DataW.trod at h
  rw [ht] at h
  have r3:List.range 2=[0,1]:=rfl
  simp [r3,hce] at h
  obtain ⟨_,h⟩:=h
  cases h0:DataW.trod enc P w base spare held n e [c0] with
  | none=>simp [h0] at h
  | some y0=>
   cases h1:DataW.trod enc P w base spare held n e [c1] with
   | none=>simp [h0,h1] at h
   | some y1=>exact ⟨c0,c1,y0,y1,n,rfl,h0,h1⟩
theorem Vy {H:Type} {enc:TypeId×Value->H} {P:Program} {w:World} {base:Nat} {spare:Nat->Bool} {held:Bool} {ik:IntKind} {fuel t e u:Nat} {v:Value} {x:DataW H×List MemPlace} (ht:P.underlying t=some (.slice e)) (he:P.underlying e=some (.array 2 u)) (hc:P.cellsOf e=2)
  (hu:P.underlying u=some (.int ik)) (cu:P.cellsOf u=1)
  (h:DataW.trod enc P w base spare held fuel t [v]=some x):∃ n zs,Lst w ik 2 v n zs/\∀ z∈zs,ik.min<=z/\z<=ik.max:=by
 rcases DataW.trod_slice ht h with ⟨h3,_⟩|⟨a,len,cap,elems,rest,n,_,h3,_,_,hl,_,hlen,hel,_,_⟩
 .cases h3
  exact ⟨0,[],⟨none,0,0,rfl,Nat.le_refl _,rfl,rfl,fun h=>absurd rfl h⟩,fun _ h=>by cases h⟩
 .cases h3
  have cell:∀ i j,i<len->j<2->∃ z,w.cell? ((a.add (i*2)).add j)=some (.int ik z)/\ik.min<=z/\z<=ik.max:=by
   intro i j hi hj
   have h4:=hel i hi
   rw [hc,List.getElem?_eq_getElem (by omega),Option.bind_eq_some_iff] at h4
   obtain ⟨cs,h5,h6⟩:=h4
   obtain ⟨_,hcl,hcs⟩:=World.cells?_some h5
   obtain ⟨c0,c1,y0,y1,m,rfl,q0,q1⟩:=Gw he cu hcl h6
   obtain ⟨z0,e0,k0⟩:=DataW.trod_int hu q0
   obtain ⟨z1,e1,k1⟩:=DataW.trod_int hu q1
   cases e0; cases e1
   have r:∀ z,(Lit.int ik z).wf=true->ik.min<=z/\z<=ik.max:=fun z hz=>by
    simp only [Lit.wf,Bool.and_eq_true,decide_eq_true_eq] at hz
    exact hz
   rcases j with _|_|j
   .exact ⟨z0,by rw [hcs 0 hj]; rfl,r _ k0.2⟩
   .exact ⟨z1,by rw [hcs 1 hj]; rfl,r _ k1.2⟩
   .omega
  obtain ⟨B,N,spot⟩:=a
  have cell':∀ q,q<2*len->spot=none/\∃ z,w.cell? ⟨B,N+q,none⟩=some (.int ik z)/\ik.min<=z/\z<=ik.max:=by
   intro q hq
   have hs:spot=none:=by
    obtain ⟨z,hz,_⟩:=cell 0 0 (by omega) (by omega)
    simp only [Addr.add,Nat.zero_mul,if_true] at hz
    exact IE hz
   subst hs
   refine ⟨rfl,?_⟩
   obtain ⟨z,hz,hr⟩:=cell (q / 2) (q % 2) (by omega) (by omega)
   refine ⟨z,?_,hr⟩
   have e:((⟨B,N,none⟩:Addr).add (q / 2*2)).add (q % 2)=⟨B,N+q,none⟩:=by
    unfold Addr.add
    split
    .split
     .have:q=0:=by omega
      subst this; rfl
     .simp only [Addr.mk.injEq,true_and,and_true]; omega
    .split
     .simp only [Addr.mk.injEq,true_and,and_true]; omega
     .simp only [Addr.mk.injEq,true_and,and_true]; omega
   rw [e] at hz
   exact hz
  refine ⟨len,(List.range (2*len)).map fun q=>(match w.cell? ⟨B,N+q,none⟩ with|some (.int _ z)=>z|_=>0),⟨some ⟨B,N,spot⟩,len,cap,rfl,hl,rfl,by simp,fun hne=>?_⟩,fun z hz=>?_⟩
  .have hpos:0<2*len:=by
    rcases Nat.eq_zero_or_pos (2*len) with h|h
    .rw [h] at hne; exact absurd rfl hne
    .exact h
   obtain rfl:=(cell' 0 hpos).1
   refine ⟨B,N,rfl,fun q hq=>?_⟩
   simp only [List.length_map,List.length_range] at hq
   obtain ⟨z,hz,_⟩:=(cell' q hq).2
   rw [hz]
   simp [List.getD_eq_getElem?_getD,hq,hz]
  .simp only [List.mem_map,List.mem_range] at hz
   obtain ⟨q,hq,rfl⟩:=hz
   obtain ⟨z,hz,hr⟩:=(cell' q hq).2
   rw [hz]
   exact hr
theorem raw_dots {H:Type} {enc:TypeId×Value->H} {P:Program} {W:World} {base:Nat} {spare:Nat->Bool} {held:Bool} {ik:IntKind} {t e u:Nat} {fs:Array Field} {f:Field} (ht:P.underlying t=some (.struct fs)) (hf:fs[0]?=some f) (hs:P.underlying f.type=some (.slice e)) (he:P.underlying e=some (.array 2 u)) (ce:P.cellsOf e=2)
  (hu:P.underlying u=some (.int ik)) (cu:P.cellsOf u=1) (off:f.offset=0) (many:1<P.cellsOf t) (cf:P.cellsOf f.type=1)
  {ts:List TypeId} {v:Value} {vs:List Value} {ds:List (DataW H)} {p:List MemPlace} (hA:DataW.TrodAll enc P W base spare held (t :: ts) (v :: vs) ds p):∃ cs last,v=.agg (last :: cs).toArray/\∃ n zs,Lst W ik 2 last n zs/\∀ z∈zs,ik.min<=z/\z<=ik.max:=by
 cases ds with
 | nil=>simp [DataW.TrodAll] at hA
 | cons d ds=>
  obtain ⟨_,_,⟨fuel,h⟩,_,_⟩:=hA
  obtain ⟨xs,n,_,_,hl,hxl,hff⟩:=DataW.trod_struct ht h
  have h3:=hff 0 f hf
  have hi:0<fs.size:=(Array.getElem?_eq_some_iff.1 hf).1
  rw [List.getElem?_eq_getElem (by omega),cf,off,List.drop_zero] at h3
  obtain ⟨last,cs,hq⟩:∃ last cs,v.cells.toList=last :: cs:=by
   match hq:v.cells.toList with
   | []=>exfalso; rw [hq] at hl; simp only [List.length_nil] at hl; omega
   | a :: l=>exact ⟨a,l,rfl⟩
  rw [hq] at h3
  refine ⟨cs,last,?_,Vy hs he ce hu cu h3⟩
  rw [<- hq]
  exact DJ (by omega)
end
end Go.Eng
