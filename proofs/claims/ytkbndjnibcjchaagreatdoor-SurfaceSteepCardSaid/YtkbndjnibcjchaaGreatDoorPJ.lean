/- What is proved: a law of conics returns true, whatever the input (part 10). No conditions beyond those of the row. -/
import Derived.Test.YtkbndjnibcjchaaGreatDoorPI
import Derived.KernelRfl
set_option linter.unusedVariables false
set_option linter.unusedSimpArgs false
set_option linter.unusedSectionVars false
namespace Go.Proofs.YtkbndjnibcjchaaGreatDoor.K
open Go Go.Eng Go.Dg
noncomputable section
theorem pi_loop (p q:Bool) {a b:List Int} (ha:Dig a) (hb:Dig b) (sa:Sm a) (sb:Sm b) {i k:Int} (hi:0<=i/\i<a.length) (hk:0<=k/\k<b.length):
  CodeOk cL2 prFr (.loop prAi) (piS p q a b i k) ⟨.tt,[⟨.tt,.exit 4,patch (piS p q a b i k) (piX (prL a b i (k+1)))⟩]⟩:=by
 have sa:=sa.le
 have sb:=sb.le
 have g1:=ha.get i.toNat
 have g2:=hb.get k.toNat
 have g3:=Int.mul_nonneg g1.1 g2.1
 have g4:a.getD i.toNat 0*b.getD k.toNat 0<=1000000000*1000000000:=Int.mul_le_mul (by omega) (by omega) g2.1 (by decide)
 have e1:IntKind.i64.wrap (i+k)=i+k:=iw (by omega) (by omega)
 have e2:IntKind.i64.wrap (a.getD i.toNat 0*b.getD k.toNat 0)=a.getD i.toNat 0*b.getD k.toNat 0:=iw (by omega) (by omega)
 refine sumL_one (run_sound cL2_ok 300) (piU a b i k) (y0:=(IntKind.i64.wrap (i+k),IntKind.i64.wrap (a.getD i.toNat 0*b.getD k.toNat 0),prL a b i k)) ?_ ⟨_,pi_start p q a b i k,⟨⟨rfl,rfl⟩,rfl⟩⟩ (by kernel_rfl) (fun y hy=>?_) rfl
 .show prI a b i k _ _ _
  rw [e1,e2]; exact prI_start ha hb hi.1 hk.1
 .obtain ⟨j,n,d⟩:=y
  have hI:prI a b i k j n d:=hy
  obtain ⟨h1,h2,h3,h4,h5,h6⟩:=id hI
  have hg:=h1.get j.toNat
  have e3:IntKind.i64.wrap ((a.length:Int)+b.length)=a.length+b.length:=iw (by omega) (by omega)
  have e4:(0+j).toNat=j.toNat:=by omega
  have e5:IntKind.i64.wrap (n+d.getD j.toNat 0)=n+d.getD j.toNat 0:=iw (by omega) (by omega)
  refine ⟨_,pi_body p q a b i k j n d,fun h=>?_,fun h=>⟨rfl,?_⟩,fun h=>?_⟩
  .have h:=dt.1 h
   have:=prI_in ha hb hI h
   rw [e3,e4]
   exact ⟨⟨⟨h3,by omega⟩,this⟩,⟨h3,by omega⟩,this⟩
  .have h:=ndt.1 h
   show (Ex.exit 4,piX (prL a b i (k+1)))=_
   rw [<- prI_end hI h]
  .have h:=dt.1 h
   have hj:=prI_in ha hb hI h
   have st:=prI_step ha hb hI h
   have e6:IntKind.i64.wrap (j+1)=j+1:=iw (by omega) (by omega)
   have e7:IntKind.i64.wrap ((n+d.getD j.toNat 0).tdiv 1000000000)=(n+d.getD j.toNat 0).tdiv 1000000000:=by
    have:=st.2.2.2.2.1
    have:=st.2.2.2.1
    exact iw (by omega) (by omega)
   rw [e4]
   refine ⟨⟨⟨rfl,rfl⟩,rfl⟩,?_,?_,rfl⟩
   .show prI a b i k (IntKind.i64.wrap (j+1)) (IntKind.i64.wrap ((IntKind.i64.wrap (n+d.getD j.toNat 0)).tdiv 1000000000)) (d.set j.toNat ((IntKind.i64.wrap (n+d.getD j.toNat 0)).tmod 1000000000))
    rw [e5,e6,e7]; exact st
   .show (a.length+b.length - IntKind.i64.wrap (j+1)).toNat<(a.length+b.length - j).toNat
    rw [e6]; omega
theorem cPi_ok (p q:Bool) {a b:List Int} (ha:Dig a) (hb:Dig b) (sa:Sm a) (sb:Sm b) {i k:Int} (hi:0<=i/\i<a.length) (hk:0<=k/\k<b.length):CtxOk (cPi p q a b i k):=withLoop_ok cL2_ok (pi_loop p q ha hb sa sb hi hk) (withNone_ok cL2_ok)
theorem pm_loop (p q:Bool) {a b:List Int} (ha:Dig a) (hb:Dig b) (sa:Sm a) (sb:Sm b) {i:Int} (hi:0<=i/\i<a.length):
  CodeOk cL2 prFr (.loop prAm) (pmS p q a b i) ⟨.tt,[⟨.tt,.exit 2,patch (pmS p q a b i) (pmP a b i b.length)⟩]⟩:=by
 have sb2:=sb.le
 refine sumL_oneC (pmU a b i) (y0:=0) ⟨by omega,by omega⟩ ⟨_,pm_start p q a b i,⟨rfl,rfl⟩⟩ (by kernel_rfl) (fun k hk=>?_) rfl
 obtain ⟨k0,k1⟩:=(show 0<=k/\k<=b.length from hk)
 by_cases hlt:k<b.length
 .refine ⟨cPi p q a b i k,300,cPi_ok p q ha hb sa sb hi ⟨k0,hlt⟩,rfl,rfl,_,pm_body p q a b i k,fun h=>⟨⟨hi,by omega,⟨k0,hlt⟩,by omega⟩,rfl,rfl,rfl⟩,fun h=>absurd hlt (ndt.1 h),fun h=>?_⟩
  have e:IntKind.i64.wrap (k+1)=k+1:=iw (by omega) (by omega)
  refine ⟨⟨rfl,?_⟩,?_,?_,rfl⟩
  .show prL a b i (k+1)=prL a b i (IntKind.i64.wrap (k+1))
   rw [e]
  .show 0<=IntKind.i64.wrap (k+1)/\IntKind.i64.wrap (k+1)<=b.length
   rw [e]; omega
  .show (b.length - IntKind.i64.wrap (k+1)).toNat<(b.length - k).toNat
   rw [e]; omega
 .obtain rfl:k=b.length:=by omega
  exact ⟨cHf 29,300,cHf_ok 29,rfl,rfl,_,pm_end p q a b i b.length,ndf hlt,fun _=>⟨⟨rfl,rfl⟩,rfl⟩⟩
theorem cPm_ok (p q:Bool) {a b:List Int} (ha:Dig a) (hb:Dig b) (sa:Sm a) (sb:Sm b) {i:Int} (hi:0<=i/\i<a.length):CtxOk (cPm p q a b i):=withLoop_ok cL2_ok (pm_loop p q ha hb sa sb hi) (withNone_ok cL2_ok)
theorem po_loop (p q:Bool) {a b:List Int} (ha:Dig a) (hb:Dig b) (sa:Sm a) (sb:Sm b):
  CodeOk cL2 prFr (.loop prAo) (poS p q a b) ⟨.tt,[⟨.tt,.exit 0,patch (poS p q a b) (poP a b a.length)⟩]⟩:=by
 have sa2:=sa.le
 have sb2:=sb.le
 refine sumL_oneC (poU a b) (y0:=0) ⟨by omega,by omega⟩ ⟨_,po_start p q a b,⟨rfl,?_⟩⟩ (by kernel_rfl) (fun i hi=>?_) rfl
 .rw [iw (by omega) (by omega),show ((a.length:Int)+b.length).toNat=a.length+b.length by omega,padL_rep]
  unfold prL prV
  simp [val]
 obtain ⟨i0,i1⟩:=(show 0<=i/\i<=a.length from hi)
 by_cases hlt:i<a.length
 .refine ⟨cPm p q a b i,300,cPm_ok p q ha hb sa sb ⟨i0,hlt⟩,rfl,rfl,_,po_body p q a b i,fun h=>⟨rfl,rfl,rfl⟩,fun h=>absurd hlt (ndt.1 h),fun h=>?_⟩
  have e:IntKind.i64.wrap (i+1)=i+1:=iw (by omega) (by omega)
  refine ⟨⟨rfl,?_⟩,?_,?_,rfl⟩
  .show prL a b i b.length=prL a b (IntKind.i64.wrap (i+1)) 0
   rw [e]
   unfold prL
   rw [prV_row i0]
  .show 0<=IntKind.i64.wrap (i+1)/\IntKind.i64.wrap (i+1)<=a.length
   rw [e]; omega
  .show (a.length - IntKind.i64.wrap (i+1)).toNat<(a.length - i).toNat
   rw [e]; omega
 .obtain rfl:i=a.length:=by omega
  exact ⟨cHf 22,300,cHf_ok 22,rfl,rfl,_,po_end p q a b a.length,ndf hlt,fun _=>⟨⟨rfl,rfl⟩,rfl⟩⟩
theorem cPo_ok (p q:Bool) {a b:List Int} (ha:Dig a) (hb:Dig b) (sa:Sm a) (sb:Sm b):CtxOk (cPo p q a b):=withLoop_ok cL2_ok (po_loop p q ha hb sa sb) (withNone_ok cL2_ok)
def prdV:List Nu->List (List Int)->Option (Prop×To)
 | [.t p,.t q],[a,b]=>some (okL p a/\okL q b/\a.length+b.length<=500000,lgT false (zv p a*zv q b))
 | _,_=>none
theorem prL_end {a b:List Int} (ha:Dig a) (hb:Dig b):(prL a b a.length 0).length=a.length+b.length/\Dig (prL a b a.length 0)/\val (prL a b a.length 0)=val a*val b:=by
 have h:=prV_bd ha hb a.length 0
 refine ⟨padL_len _ _,padL_dig _ _,?_⟩
 unfold prL
 rw [padL_val h.1 h.2]
 unfold prV
 rw [show ((a.length:Int)).toNat=a.length by omega,List.take_length,show (0:Int).toNat=0 from rfl]
 simp [val]
theorem prod_ok:NOk Tryz.prog (fun _=>none) hG0 88 (mSpec hG0 .i64 [.st [.nu .b,.li],.st [.nu .b,.li]] prdV):=by
 refine msp_runs (fun xs ys p t e h=>?_) ⟨_,Tryz.func88,rfl⟩
 unfold prdV at e
 split at e
 .rename_i p q a b
  cases e
  obtain ⟨ha,hb,hl⟩:=h
  obtain ⟨l1,l2,l3⟩:=prL_end ha.1 hb.1
  have e1:IntKind.i64.wrap ((a.length:Int)+b.length)=a.length+b.length:=iw (by omega) (by omega)
  have e2:List.take (IntKind.i64.wrap ((a.length:Int)+b.length)).toNat (List.drop (Int.toNat 0) (prL a b a.length 0))=prL a b a.length 0:=by
   rw [e1,show ((a.length:Int)+b.length).toNat=(prL a b a.length 0).length by omega,show (Int.toNat 0)=0 from rfl,List.drop_zero,List.take_length]
  have v0:=Int.mul_nonneg (val_nonneg ha.1) (val_nonneg hb.1)
  have hz:zv p a*zv q b=bif (!p==q) then -(val a*val b) else val a*val b:=by
   cases p <;> cases q <;> simp [zv,Int.neg_mul,Int.mul_neg]
  refine ⟨cPo p q a b,300,suArgs p q a b,_,_,_,_,_,cPo_ok p q ha.1 hb.1 ha.2.2.2 hb.2.2.2,rfl,rfl,⟨⟨rfl,rfl,trivial⟩,⟨rfl,rfl,trivial⟩,trivial⟩,pr_t p q a b,rfl,⟨⟨rfl,by omega,by omega⟩,⟨rfl,rfl,rfl⟩,by omega,by rw [e2]; exact l2,?_⟩,rfl,rfl,⟨?_,?_,?_⟩⟩
  .rw [e2]; show _<=500000; omega
  .show (!p==q&&decide (val (List.take (IntKind.i64.wrap ((a.length:Int)+b.length)).toNat (List.drop (Int.toNat 0) (prL a b a.length 0)))≠0))=decide (zv p a*zv q b<0)
   rw [e2,l3]
   exact sgn_eq v0 hz
  .exact lenp
  .show List.take _ (List.drop _ (digs (val (List.take (IntKind.i64.wrap ((a.length:Int)+b.length)).toNat (List.drop (Int.toNat 0) (prL a b a.length 0)))).toNat))=digs (zv p a*zv q b).natAbs
   rw [e2,td,l3,abs_eq v0 hz]
 .cases e
end
end Go.Proofs.YtkbndjnibcjchaaGreatDoor.K
namespace Go.Dg
open Go Go.Eng
def tkQ (D b:List Int):Int:=IntKind.i64.wrap ((IntKind.i64.wrap (IntKind.i64.wrap ((bif decide (IntKind.i64.wrap (IntKind.i64.wrap ((b.length:Int) - 1)+1)<(D.length:Int)) then D.getD (0+IntKind.i64.wrap (IntKind.i64.wrap ((b.length:Int) - 1)+1)).toNat 0 else 0)*1000000000)+D.getD (0+IntKind.i64.wrap ((b.length:Int) - 1)).toNat 0)).tdiv (IntKind.i64.wrap (b.getD (IntKind.i64.wrap ((b.length:Int) - 1)).toNat 0+1)))
def tkK (D b:List Int):Int:=bif tkQ D b==0 then 1 else tkQ D b
theorem tkQ_eq {D b:List Int} (hD:Dig D) (hb:Dig b) (sb:b.length<=500000) (hne:b≠[]):tkQ D b=estK D b:=by
 have hpos:=List.length_pos_iff.2 hne
 have e1:IntKind.i64.wrap ((b.length:Int) - 1)=b.length - 1:=iw (by omega) (by omega)
 have e2:IntKind.i64.wrap ((b.length:Int) - 1+1)=b.length:=by rw [iw (by omega) (by omega)]; omega
 have g1:=hD.get b.length
 have g2:=hD.get (b.length - 1)
 have g3:=hb.get (b.length - 1)
 have e3:(bif decide ((b.length:Int)<(D.length:Int)) then D.getD (0+(b.length:Int)).toNat 0 else 0)=D.getD b.length 0:=by
  have:=at_eq (a:=D) (i:=(b.length:Int)) (by omega)
  rw [show (0+(b.length:Int))=b.length by omega,this]
  congr 1
 unfold tkQ estK
 rw [e1,e2,e3,show (0+((b.length:Int) - 1)).toNat=b.length - 1 by omega,show ((b.length:Int) - 1).toNat=b.length - 1 by omega]
 have e4:IntKind.i64.wrap (D.getD b.length 0*1000000000)=D.getD b.length 0*1000000000:=iw (by omega) (by omega)
 have e5:IntKind.i64.wrap (D.getD b.length 0*1000000000+D.getD (b.length - 1) 0)=D.getD b.length 0*1000000000+D.getD (b.length - 1) 0:=iw (by omega) (by omega)
 have e6:IntKind.i64.wrap (b.getD (b.length - 1) 0+1)=b.getD (b.length - 1) 0+1:=iw (by omega) (by omega)
 rw [e4,e5,e6]
 have h0:0<=D.getD b.length 0*1000000000+D.getD (b.length - 1) 0:=by omega
 rw [Int.tdiv_eq_ediv_of_nonneg h0]
 have h1:0<=(D.getD b.length 0*1000000000+D.getD (b.length - 1) 0) / (b.getD (b.length - 1) 0+1):=Int.ediv_nonneg h0 (by omega)
 have h2:(D.getD b.length 0*1000000000+D.getD (b.length - 1) 0) / (b.getD (b.length - 1) 0+1)<=D.getD b.length 0*1000000000+D.getD (b.length - 1) 0:=Int.ediv_le_self _ h0
 exact iw (by omega) (by omega)
theorem tkK_spec {D b:List Int} (hD:Dig D) (tD:Top D) (hb:Dig b) (tb:Top b) (sb:b.length<=500000) (hne:b≠[]) (hge:val b<=val D) (hlt:val D<(1000000000:Int)*val b):
  1<=tkK D b/\tkK D b<(1000000000:Int)/\tkK D b*val b<=val D/\b.length<=D.length:=by
 obtain ⟨h1,h2,h3,h4,h5⟩:=est_spec hD hb tD tb hne hge hlt
 unfold tkK
 rw [tkQ_eq hD hb sb hne]
 by_cases h0:estK D b=0
 .rw [h0]
  exact ⟨by decide,by decide,by show 1*val b<=val D; omega,h1⟩
 .have:(estK D b==0)=false:=neb.2 h0
  rw [this,cond_false]
  exact ⟨by omega,h4,h5,h1⟩
def tjI (D b:List Int) (k j c:Int) (d:List Int):Prop:=
 Dig d/\d.length=D.length/\0<=j/\j<=D.length/\-1000000000<=c/\c<=1/\val d+pw j.toNat*c=val D - k*val (b.take j.toNat)
def tjX (b:List Int) (k j c:Int) (d:List Int):Int:=IntKind.i64.wrap (IntKind.i64.wrap (d.getD j.toNat 0 - IntKind.i64.wrap ((bif decide (j<b.length) then b.getD j.toNat 0 else 0)*k))+c)
theorem tjX_eq {D b:List Int} {k j c:Int} {d:List Int} (hb:Dig b) (hk:0<=k/\k<(1000000000:Int)) (h:tjI D b k j c d):tjX b k j c d=d.getD j.toNat 0 - b.getD j.toNat 0*k+c/\-1000000000000000000+999999999<=d.getD j.toNat 0 - b.getD j.toNat 0*k+c/\d.getD j.toNat 0 - b.getD j.toNat 0*k+c<=(1000000000:Int):=by
 obtain ⟨h1,h2,h3,h4,h5,h6,h7⟩:=h
 have g1:=h1.get j.toNat
 have g2:=hb.get j.toNat
 have m0:=Int.mul_nonneg g2.1 hk.1
 have m1:b.getD j.toNat 0*k<=999999999*999999999:=Int.mul_le_mul (by omega) (by omega) hk.1 (by decide)
 unfold tjX
 rw [at_eq h3]
 have e1:IntKind.i64.wrap (b.getD j.toNat 0*k)=b.getD j.toNat 0*k:=iw (by omega) (by omega)
 have e2:IntKind.i64.wrap (d.getD j.toNat 0 - b.getD j.toNat 0*k)=d.getD j.toNat 0 - b.getD j.toNat 0*k:=iw (by omega) (by omega)
 rw [e1,e2]
 exact ⟨iw (by omega) (by omega),by omega,by omega⟩
def tjR (x:Int):Int:=bif decide (x.tmod 1000000000<0) then IntKind.i64.wrap (x.tmod 1000000000+1000000000) else x.tmod 1000000000
def tjC (x:Int):Int:=bif decide (x.tmod 1000000000<0) then IntKind.i64.wrap (IntKind.i64.wrap (x.tdiv 1000000000) - 1) else IntKind.i64.wrap (x.tdiv 1000000000)
theorem tmod_bd (x:Int):-(1000000000:Int)<x.tmod (1000000000:Int)/\x.tmod (1000000000:Int)<(1000000000:Int):=by
 have:=Int.natAbs_tmod x (1000000000:Int)
 have h3:x.natAbs % 1000000000<1000000000:=Nat.mod_lt _ (by decide)
 have h4:(x.tmod (1000000000:Int)).natAbs<1000000000:=by rw [this]; exact h3
 omega
theorem tj_eq {x:Int} (h:-4000000000000000000<=x/\x<=4000000000000000000):tjR x=fr x/\tjC x=fq x:=by
 have h1:=tmod_bd x
 have h2:=Int.mul_tdiv_add_tmod x (1000000000:Int)
 have e:IntKind.i64.wrap (x.tdiv 1000000000)=x.tdiv 1000000000:=iw (by omega) (by omega)
 unfold tjR tjC fr fq
 rw [e]
 by_cases h0:x.tmod 1000000000<0
 .rw [decide_eq_true h0,if_pos h0,if_pos h0,cond_true,cond_true,iw (by omega) (by omega),iw (by omega) (by omega)]
  exact ⟨rfl,rfl⟩
 .rw [decide_eq_false h0,if_neg h0,if_neg h0]
  exact ⟨rfl,rfl⟩
theorem tjI_step {D b:List Int} {k j c:Int} {d:List Int} (hb:Dig b) (hk:0<=k/\k<(1000000000:Int)) (h:tjI D b k j c d) (hj:j<D.length):tjI D b k (j+1) (tjC (tjX b k j c d)) (d.set j.toNat (tjR (tjX b k j c d))):=by
 obtain ⟨x1,x2,x3⟩:=tjX_eq hb hk h
 obtain ⟨h1,h2,h3,h4,h5,h6,h7⟩:=h
 rw [x1]
 obtain ⟨t1,t2⟩:=tj_eq (x:=d.getD j.toNat 0 - b.getD j.toNat 0*k+c) (by omega)
 rw [t1,t2]
 obtain ⟨s1,s2,s3⟩:=f_spec (d.getD j.toNat 0 - b.getD j.toNat 0*k+c)
 refine ⟨h1.set _ ⟨s1,s2⟩,by rw [List.length_set,h2],by omega,by omega,by omega,by omega,?_⟩
 rw [val_set d _ _ (by omega),show (j+1).toNat=j.toNat+1 by omega,val_take_succ' b]
 have e:pw j.toNat*(fr (d.getD j.toNat 0 - b.getD j.toNat 0*k+c)+(1000000000:Int)*fq (d.getD j.toNat 0 - b.getD j.toNat 0*k+c))=pw j.toNat*(d.getD j.toNat 0 - b.getD j.toNat 0*k+c):=by rw [s3]
 generalize fr (d.getD j.toNat 0 - b.getD j.toNat 0*k+c)=R at *
 generalize fq (d.getD j.toNat 0 - b.getD j.toNat 0*k+c)=Q at *
 have e3:pw (j.toNat+1)=(1000000000:Int)*pw j.toNat:=rfl
 rw [e3]
 grind
theorem tjI_end {D b:List Int} {k c:Int} {d:List Int} (hD:Dig D) (hl:b.length<=D.length) (hle:k*val b<=val D) (hk:0<=k*val b) (h:tjI D b k D.length c d):d=padL D.length (val D - k*val b):=by
 obtain ⟨h1,h2,h3,h4,h5,h6,h7⟩:=h
 rw [show ((D.length:Int)).toNat=D.length by omega,List.take_of_length_le hl] at h7
 have q1:=val_nonneg h1
 have q2:=val_lt h1
 rw [h2] at q2
 have q3:=val_lt hD
 have q5:=pw_pos D.length
 have hc:c=0:=by
  rcases (show c=0\/1<=c\/c<=-1 by omega) with h|h|h
  .exact h
  .have:pw D.length*1<=pw D.length*c:=Int.mul_le_mul_of_nonneg_left h (Int.le_of_lt q5)
   omega
  .have:pw D.length*c<=pw D.length*(-1):=Int.mul_le_mul_of_nonneg_left h (Int.le_of_lt q5)
   omega
 subst hc
 exact padL_uni h1 h2 (by rw [<- h7]; simp)
theorem tjI_start {D b:List Int} {k:Int} (hD:Dig D):tjI D b k 0 0 D:=by
 refine ⟨hD,rfl,by omega,by omega,by omega,by omega,?_⟩
 simp [val]
end Go.Dg
namespace Go.Dg
open Go Go.Eng
def paQ (a b:List Int) (i:Int):List Int:=padL a.length (pw (i+1).toNat*(val (a.drop (i+1).toNat) / val b))
def paR (a b:List Int) (i:Int):List Int:=digs (val (a.drop (i+1).toNat) % val b).toNat
def dA (a:List Int) (i:Int):Int:=val (a.drop (i+1).toNat)
theorem dA_step {a:List Int} {i:Int} (h0:0<=i) (h1:i<a.length):dA a (i - 1)=a.getD i.toNat 0+(1000000000:Int)*dA a i:=by
 unfold dA
 rw [show (i - 1+1).toNat=i.toNat by omega,show (i+1).toNat=i.toNat+1 by omega,List.drop_eq_getElem_cons (by omega)]
 rw [List.getD_eq_getElem?_getD,List.getElem?_eq_getElem (by omega)]
 rfl
theorem dA_top (a:List Int):dA a (a.length - 1)=0:=by
 unfold dA
 rw [List.drop_of_length_le (by omega)]; rfl
theorem dA_nn {a:List Int} (h:Dig a) (i:Int):0<=dA a i:=val_nonneg (h.drop _)
theorem dA_le {a:List Int} (h:Dig a) {i:Int} (h0:-1<=i) (h1:i<a.length):pw (i+1).toNat*dA a i<=val a:=by
 have e:val a=val (a.take (i+1).toNat)+pw (a.take (i+1).toNat).length*val (a.drop (i+1).toNat):=by rw [<- val_app,List.take_append_drop]
 rw [List.length_take,Nat.min_eq_left (by omega)] at e
 have:=val_nonneg (h.take (i+1).toNat)
 unfold dA
 omega
theorem padL_get:∀ (n:Nat) (v:Int) (i:Nat),i<n->(padL n v).getD i 0=v / pw i % (1000000000:Int)
 | 0,_,_,h=>by omega
 | n+1,v,0,_=>by simp [padL,pw]
 | n+1,v,i+1,h=>by
  simp only [padL,List.getD_cons_succ]
  rw [padL_get n _ i (by omega),Int.ediv_ediv_of_nonneg (by decide)]
  rfl
def paV (a b:List Int) (i:Int):Int:=a.getD i.toNat 0+(1000000000:Int)*(dA a i % val b)
theorem paV_bd {a b:List Int} (ha:Dig a) (hv:0<val b) (i:Int):0<=paV a b i/\paV a b i<(1000000000:Int)*val b:=by
 have h1:=ha.get i.toNat
 have h2:=Int.emod_nonneg (dA a i) (show val b≠0 by omega)
 have h3:=Int.emod_lt_of_pos (dA a i) hv
 unfold paV
 omega
theorem paV_next {a b:List Int} (hv:0<val b) {i:Int} (h0:0<=i) (h1:i<a.length):dA a (i - 1) % val b=paV a b i % val b/\dA a (i - 1) / val b=(1000000000:Int)*(dA a i / val b)+paV a b i / val b:=by
 have e:dA a (i - 1)=paV a b i+(1000000000:Int)*(dA a i / val b)*val b:=by
  rw [dA_step h0 h1]
  unfold paV
  have:=Int.mul_ediv_add_emod (dA a i) (val b)
  grind
 rw [e]
 constructor
 .rw [Int.add_mul_emod_self_right]
 .rw [Int.add_mul_ediv_right _ _ (by omega)]; omega
theorem paR_next {a b:List Int} (hv:0<val b) {i:Int} (h0:0<=i) (h1:i<a.length):paR a b (i - 1)=digs (paV a b i % val b).toNat:=by
 show digs (dA a (i - 1) % val b).toNat=_
 rw [(paV_next hv h0 h1).1]
theorem paQ_next {a b:List Int} (ha:Dig a) (hv:0<val b) {i:Int} (h0:0<=i) (h1:i<a.length):(paQ a b i).set i.toNat (paV a b i / val b)=paQ a b (i - 1):=by
 have hb:=paV_bd ha hv i
 have hq0:0<=paV a b i / val b:=Int.ediv_nonneg hb.1 (by omega)
 have hq1:paV a b i / val b<(1000000000:Int):=Int.ediv_lt_of_lt_mul hv hb.2
 have hn:=dA_nn ha i
 have hn1:=dA_nn ha (i - 1)
 have hQ:0<=dA a i / val b:=Int.ediv_nonneg hn (by omega)
 have hQ1:0<=dA a (i - 1) / val b:=Int.ediv_nonneg hn1 (by omega)
 have hp:=pw_pos (i+1).toNat
 have hp1:=pw_pos i.toNat
 have b1:pw (i+1).toNat*(dA a i / val b)<pw a.length:=by
  have h2:=dA_le ha (i:=i) (by omega) h1
  have h3:pw (i+1).toNat*(dA a i / val b)<=pw (i+1).toNat*dA a i:=Int.mul_le_mul_of_nonneg_left (Int.ediv_le_self _ hn) (by omega)
  have:=val_lt ha
  omega
 have e2:(i - 1+1).toNat=i.toNat:=by omega
 have b2:pw i.toNat*(dA a (i - 1) / val b)<pw a.length:=by
  have h2:=dA_le ha (i:=i - 1) (by omega) (by omega)
  rw [e2] at h2
  have h3:pw i.toNat*(dA a (i - 1) / val b)<=pw i.toNat*dA a (i - 1):=Int.mul_le_mul_of_nonneg_left (Int.ediv_le_self _ hn1) (by omega)
  have:=val_lt ha
  omega
 show (padL a.length (pw (i+1).toNat*(dA a i / val b))).set i.toNat (paV a b i / val b)=padL a.length (pw (i - 1+1).toNat*(dA a (i - 1) / val b))
 rw [e2]
 refine padL_uni ((padL_dig _ _).set _ ⟨hq0,hq1⟩) (by rw [List.length_set,padL_len]) ?_
 rw [val_set _ _ _ (by rw [padL_len]; omega),padL_val (Int.mul_nonneg (by omega) hQ) b1,padL_get _ _ _ (by omega),(paV_next hv h0 h1).2]
 have e3:pw (i+1).toNat=(1000000000:Int)*pw i.toNat:=by rw [show (i+1).toNat=i.toNat+1 by omega]; rfl
 have e4:pw (i+1).toNat*(dA a i / val b) / pw i.toNat % (1000000000:Int)=0:=by
  rw [e3,show (1000000000:Int)*pw i.toNat*(dA a i / val b)=pw i.toNat*((1000000000:Int)*(dA a i / val b)) by rw [Int.mul_comm (1000000000:Int),Int.mul_assoc],Int.mul_ediv_cancel_left _ (by omega)]
  omega
 rw [e4,e3]
 grind
theorem paQ_top (a b:List Int):List.replicate a.length (0:Int)=paQ a b (a.length - 1):=by
 show _=padL a.length (pw ((a.length:Int) - 1+1).toNat*(dA a (a.length - 1) / val b))
 rw [dA_top,padL_rep]; simp
theorem paQ_end {a b:List Int} (ha:Dig a) (hv:0<val b):(paQ a b (-1)).length=a.length/\Dig (paQ a b (-1))/\val (paQ a b (-1))=val a / val b:=by
 refine ⟨padL_len _ _,padL_dig _ _,?_⟩
 have h:=val_nonneg ha
 have h1:=val_lt ha
 have h2:val a / val b<=val a:=Int.ediv_le_self _ h
 have h3:0<=val a / val b:=Int.ediv_nonneg h (by omega)
 have e:pw ((-1:Int)+1).toNat*(val (a.drop ((-1:Int)+1).toNat) / val b)=val a / val b:=by
  rw [show ((-1:Int)+1).toNat=0 from rfl,List.drop_zero]; simp [pw]
 unfold paQ
 rw [e,padL_val h3 (by omega)]
theorem paR_end (a b:List Int):paR a b (-1)=digs (val a % val b).toNat:=by
 unfold paR
 rw [show ((-1:Int)+1).toNat=0 from rfl,List.drop_zero]
end Go.Dg
namespace Go.Proofs.YtkbndjnibcjchaaGreatDoor.K
open Go Go.Eng Go.Dg
noncomputable section
def paFr:AFr:=⟨103,none⟩
def paA:Code:=loopOf Tryz.prog 103 0
noncomputable def paS (p q:Bool) (a b:List Int):St:=stAt cL2 300 103 (suArgs p q a b) (leH a b)
def paP (a b:List Int):Option Int->Patch
 | none=>⟨(8,.int true .i64 (a.length - 1)) :: (9,.any false) :: deadT 18 24,[(6,.ints .i64 (paQ a b (a.length - 1)))],[]⟩
 | some i=>⟨(7,.islice true 7 0 (paR a b i).length) :: (8,.int true .i64 i) :: (9,.any false) :: deadT 18 24,[(6,.ints .i64 (paQ a b i))],[.ints .i64 (paR a b i)]⟩
end
end Go.Proofs.YtkbndjnibcjchaaGreatDoor.K
namespace Go.Proofs.YtkbndjnibcjchaaGreatDoor.K
open Go Go.Eng Go.Dg
noncomputable section
def tkFr:AFr:=⟨123,none⟩
def tkA:Code:=loopOf Tryz.prog 123 0
def tkB:Code:=loopOf Tryz.prog 123 1
def tkR (x:Int):Option (List Int)->List Int
 | none=>digs (val [x]).toNat
 | some r=>digs (val (List.take ((↑(1:Nat):Int)+(↑r.length:Int)).toNat (List.drop (Int.toNat 0) ([x]++List.take (↑r.length:Int).toNat (List.drop (Int.toNat 0) r))))).toNat
def tkT (id:Nat) (R b:List Int):List AT:=
 [⟨0,.islice true id 0 R.length⟩,⟨0,.lslice 1 b.length⟩,⟨0,.tuple []⟩,⟨0,.tuple []⟩,⟨41,.nilslice⟩,⟨42,.int false .i64 0⟩,⟨43,.int false .i64 0⟩]++blankT 70
def tkS (p q:Bool) (a b:List Int) (i x:Int) (R:List Int):Option (List Int)->St
 | none=>⟨tkT 8 R b,[],⟨[⟨37,.ints .i64 R⟩,⟨30,.cells [.int true .i64 x]⟩,⟨18,.ints .i64 (paQ a b i)⟩,⟨6,.cells [.bool false false,.nilslice]⟩,⟨5,.cells [.bool false false,.nilslice]⟩,⟨4,.cells [.bool true q,.lslice 1 b.length]⟩,⟨3,.cells [.bool true p,.lslice 0 a.length]⟩,⟨0,.rows .i64 b⟩,⟨0,.rows .i64 a⟩],9,44⟩⟩
 | some r=>⟨tkT 10 R b,[],⟨[⟨37,.ints .i64 R⟩,⟨30,.ints .i64 ([x]++List.take (↑r.length:Int).toNat (List.drop (Int.toNat 0) r))⟩,⟨30,.dead⟩,⟨18,.ints .i64 r⟩,⟨18,.ints .i64 (paQ a b i)⟩,⟨6,.cells [.bool false false,.nilslice]⟩,⟨5,.cells [.bool false false,.nilslice]⟩,⟨4,.cells [.bool true q,.lslice 1 b.length]⟩,⟨3,.cells [.bool true p,.lslice 0 a.length]⟩,⟨0,.rows .i64 b⟩,⟨0,.rows .i64 a⟩],11,44⟩⟩
def tkP (w:Bool):Option (Int×Int)->Patch
 | none=>⟨(6,.int true .i64 0) :: deadT 7 68,[],[]⟩
 | some (r,n)=>match w with
  | false=>⟨(0,.islice true 9 0 (digs r.toNat).length) :: (6,.int true .i64 n) :: deadT 7 68,[(8,.dead)],[.ints .i64 (digs r.toNat)]⟩
  | true=>⟨(0,.islice true 11 0 (digs r.toNat).length) :: (6,.int true .i64 n) :: deadT 7 68,[(10,.dead)],[.ints .i64 (digs r.toNat)]⟩
def cTh:Ctx:=hinting cL2 (hintsT [(15,.bool false true)])
theorem cTh_ok:CtxOk cTh:=hinting_ok cL2_ok _
noncomputable def tiS (p q:Bool) (a b:List Int) (i x:Int) (R:List Int) (o:Option (List Int)) (y:Option (Int×Int)):St:=stIn cTh 300 tkFr tkA (patch (tkS p q a b i x R o) (tkP o.isSome y))
def tkId (w:Bool) (y:Option (Int×Int)):Nat:=match w with
 | false=>(match y with|none=>8|some _=>9)
 | true=>(match y with|none=>10|some _=>11)
def tkD (R:List Int):Option (Int×Int)->List Int
 | none=>R
 | some (r,_)=>digs r.toNat
def tjP (id:Nat) (j c:Int) (d:List Int):Patch:=⟨(9,.int true .i64 c) :: (10,.int true .i64 j) :: (11,.any false) :: deadT 40 32,[(id,.ints .i64 d)],[]⟩
def tjF (id:Nat) (d:List Int):Patch:=⟨(9,.any false) :: (10,.any false) :: (11,.any false) :: deadT 40 32,[(id,.ints .i64 d)],[]⟩
def tjX2 (b:List Int) (k j c:Int) (d:List Int):Int:=IntKind.i64.wrap (IntKind.i64.wrap (d.getD (0+j).toNat 0 - IntKind.i64.wrap ((bif decide (j<b.length) then b.getD j.toNat 0 else 0)*k))+c)
def tjU (id:Nat) (D b:List Int):SumL (Int×Int×List Int):=
 {
  S:=fun (j,c,d)=>tjP id j c d
  I:=fun (j,c,d)=>tjI D b (tkK D b) j c d
  μ:=fun (j,_,_)=>(D.length - j).toNat
  F:=fun _=>(.exit 2,tjF id (padL D.length (val D - tkK D b*val b)))
  next:=fun (j,c,d)=>(IntKind.i64.wrap (j+1),tjC (tjX2 b (tkK D b) j c d),d.set (0+j).toNat (tjR (tjX2 b (tkK D b) j c d)))
  ids:=fun _=>[]
  X:=fun (_,_,d) _=>some (tjF id d,[]) }
noncomputable def cTi (p q:Bool) (a b:List Int) (i x:Int) (R:List Int) (o:Option (List Int)) (y:Option (Int×Int)):Ctx:=
 withLoops cTh [oneLoop 123 (tiS p q a b i x R o y).hp.clock tkFr tkB (tiS p q a b i x R o y) (.exit 2) (tjF (tkId o.isSome y) (padL (tkD R y).length (val (tkD R y) - tkK (tkD R y) b*val b)))]
def cTe:Ctx:=hinting cL2 (hintsT [(15,.bool false false)])
theorem cTe_ok:CtxOk cTe:=hinting_ok cL2_ok _
def tkE (R b:List Int) (lt:Bool):Option (Int×Int):=match lt with
 | true=>none
 | false=>some (val R % val b,val R / val b)
def tkU (w lt:Bool) (R b:List Int):SumL (Option (Int×Int)):=
 {
  S:=tkP w
  I:=fun y=>match y with
   | none=>True
   | some (r,n)=>0<=r/\0<=n/\r+n*val b=val R/\lt=false
  μ:=fun y=>match y with
   | none=>(val R).toNat+1
   | some (r,_)=>r.toNat
  F:=fun _=>(.exit 0,tkP w (tkE R b lt))
  next:=fun y=>match y with
   | none=>some (val R - tkK R b*val b,IntKind.i64.wrap (0+tkK R b))
   | some (r,n)=>some (r - tkK (digs r.toNat) b*val b,IntKind.i64.wrap (n+tkK (digs r.toNat) b))
  ids:=fun y=>match w with
   | false=>(match y with|none=>[9]|some _=>[10])
   | true=>(match y with|none=>[11]|some _=>[12])
  X:=fun y _=>some (tkP w y,match w with
   | false=>(match y with|none=>[]|some _=>[9])
   | true=>(match y with|none=>[]|some _=>[11])) }
end
end Go.Proofs.YtkbndjnibcjchaaGreatDoor.K
namespace Go.Proofs.YtkbndjnibcjchaaGreatDoor.K
open Go Go.Eng Go.Dg
noncomputable section
def ti_s00_nd (p q:Bool) (a b:List Int) (i x:Int) (R:List Int):Prop:=((0:Int)=(0:Int)/\(0:Int)=(0:Int))/\R=R
theorem ti_s00 (p q:Bool) (a b:List Int) (i x:Int) (R:List Int):fit (tiS p q a b i x R none none) (tiS p q a b i x R none none) (patch (tiS p q a b i x R none none) ((tjU 8 R b).S (0,0,R))) ([])=some (.p (ti_s00_nd p q a b i x R)):=by kernel_rfl
def ti_b00_nd (p q:Bool) (a b:List Int) (i x:Int) (R:List Int) (j c:Int) (d:List Int):Prop:=(decide (j<(↑R.length:Int))=true->(((0:Int)<=j/\j<(↑R.length:Int))/\((0:Int)+j).toNat<d.length/\(decide (j<(↑b.length:Int))=true->((0:Int)<=j/\j<(↑b.length:Int))/\j.toNat<b.length)/\((0:Int)+j).toNat<d.length/\d.getD ((0:Int)+j).toNat (0:Int)=d.getD ((0:Int)+j).toNat (0:Int))/\((0:Int)<=j/\j<(↑R.length:Int))/\((0:Int)+j).toNat<d.length)/\((!decide (j<(↑R.length:Int)))=true->d=d/\(tjU (8:Nat) R b).F (j,c,d)=(Ex.exit (2:Nat),tjF (8:Nat) d))/\(decide (j<(↑R.length:Int))=true->(((tjC (tjX2 b (tkK R b) j c d))=tjC (tjX2 b (tkK R b) j c d)/\IntKind.i64.wrap (j+(1:Int))=IntKind.i64.wrap (j+(1:Int)))/\d.set ((0:Int)+j).toNat (tjR (tjX2 b (tkK R b) j c d))=d.set ((0:Int)+j).toNat (tjR (tjX2 b (tkK R b) j c d)))/\(tjU (8:Nat) R b).I ((tjU (8:Nat) R b).next (j,c,d))/\(tjU (8:Nat) R b).μ ((tjU (8:Nat) R b).next (j,c,d))<(tjU (8:Nat) R b).μ (j,c,d)/\(tjU (8:Nat) R b).F ((tjU (8:Nat) R b).next (j,c,d))=(tjU (8:Nat) R b).F (j,c,d))
theorem ti_b00 (p q:Bool) (a b:List Int) (i x:Int) (R:List Int) (j c:Int) (d:List Int):chkR (tiS p q a b i x R none none) ((tjU 8 R b).way ((j,c,d))) ((run cL2 300).code tkFr tkB (patch (tiS p q a b i x R none none) ((tjU 8 R b).S (j,c,d))))=some (.p (ti_b00_nd p q a b i x R j c d)):=by kernel_rfl
def tk_b00_nd (lt:Bool) (p q:Bool) (a b:List Int) (i x:Int) (R:List Int):Prop:=((((((0:Int)<=(0:Int)/\(0:Int)<=(↑R.length:Int)/\(0:Int)+(↑R.length:Int)<=(↑R.length:Int))/\(↑b.length:Int)=(↑b.length:Int))/\Sm (List.take (↑R.length:Int).toNat (List.drop (Int.toNat (0:Int)) R))/\Sm b)/\(!lessL (List.take (↑R.length:Int).toNat (List.drop (Int.toNat (0:Int)) R)) b)=true)/\(((0:Int)<=IntKind.i64.wrap ((↑b.length:Int) - (1:Int))/\IntKind.i64.wrap ((↑b.length:Int) - (1:Int))<(↑R.length:Int))/\((0:Int)+IntKind.i64.wrap ((↑b.length:Int) - (1:Int))).toNat<R.length/\((0:Int)<=IntKind.i64.wrap ((↑b.length:Int) - (1:Int))/\IntKind.i64.wrap ((↑b.length:Int) - (1:Int))<(↑b.length:Int))/\(IntKind.i64.wrap ((↑b.length:Int) - (1:Int))).toNat<b.length/\(decide (IntKind.i64.wrap (IntKind.i64.wrap ((↑b.length:Int) - (1:Int))+(1:Int))<(↑R.length:Int))=true->((0:Int)<=IntKind.i64.wrap (IntKind.i64.wrap ((↑b.length:Int) - (1:Int))+(1:Int))/\IntKind.i64.wrap (IntKind.i64.wrap ((↑b.length:Int) - (1:Int))+(1:Int))<(↑R.length:Int))/\((0:Int)+IntKind.i64.wrap (IntKind.i64.wrap ((↑b.length:Int) - (1:Int))+(1:Int))).toNat<R.length)/\(((IntKind.i64.wrap ((↑b.length:Int) - (1:Int))).toNat<b.length/\b.getD (IntKind.i64.wrap ((↑b.length:Int) - (1:Int))).toNat (0:Int)=b.getD (IntKind.i64.wrap ((↑b.length:Int) - (1:Int))).toNat (0:Int))/\((0:Int)+IntKind.i64.wrap ((↑b.length:Int) - (1:Int))).toNat<R.length/\R.getD ((0:Int)+IntKind.i64.wrap ((↑b.length:Int) - (1:Int))).toNat (0:Int)=R.getD ((0:Int)+IntKind.i64.wrap ((↑b.length:Int) - (1:Int))).toNat (0:Int))/\IntKind.i64.wrap (b.getD (IntKind.i64.wrap ((↑b.length:Int) - (1:Int))).toNat (0:Int)+(1:Int))≠(0:Int))/\At (tkFr) (tkFr) (tkB) (tkB) (tiS p q a b i x R none none) (tiS p q a b i x R none none)/\((0:Int)<=(0:Int)/\(0:Int)<=(↑R.length:Int)/\(0:Int)+(↑R.length:Int)<=(↑(padL (tkD R none).length (val (tkD R none) - tkK (tkD R none) b*val b)).length:Int))/\Dig (List.take (↑R.length:Int).toNat (List.drop (Int.toNat (0:Int)) (padL (tkD R none).length (val (tkD R none) - tkK (tkD R none) b*val b))))/\Sm (List.take (↑R.length:Int).toNat (List.drop (Int.toNat (0:Int)) (padL (tkD R none).length (val (tkD R none) - tkK (tkD R none) b*val b)))))/\(true=true->((((0:Int)=(0:Int)/\(↑(digs (val (List.take (↑R.length:Int).toNat (List.drop (Int.toNat (0:Int)) (padL (tkD R none).length (val (tkD R none) - tkK (tkD R none) b*val b))))).toNat).length:Int)=(↑(digs (val R - tkK R b*val b).toNat).length:Int))/\IntKind.i64.wrap ((0:Int)+tkK R b)=IntKind.i64.wrap ((0:Int)+tkK R b))/\digs (val (List.take (↑R.length:Int).toNat (List.drop (Int.toNat (0:Int)) (padL (tkD R none).length (val (tkD R none) - tkK (tkD R none) b*val b))))).toNat=digs (val R - tkK R b*val b).toNat)/\(tkU false lt R b).I ((tkU false lt R b).next none)/\(tkU false lt R b).μ ((tkU false lt R b).next none)<(tkU false lt R b).μ none/\(tkU false lt R b).F ((tkU false lt R b).next none)=(tkU false lt R b).F none)
theorem tk_b00 (lt:Bool) (p q:Bool) (a b:List Int) (i x:Int) (R:List Int):chkR (tkS p q a b i x R none) ((tkU false lt R b).way (none)) ((run (cTi p q a b i x R none none) 300).code tkFr tkA (patch (tkS p q a b i x R none) ((tkU false lt R b).S none)))=some (.p (tk_b00_nd lt p q a b i x R)):=by kernel_rfl
def tk_e00_nd (lt:Bool) (p q:Bool) (a b:List Int) (i x:Int) (R:List Int):Prop:=(((((0:Int)<=(0:Int)/\(0:Int)<=(↑R.length:Int)/\(0:Int)+(↑R.length:Int)<=(↑R.length:Int))/\(↑b.length:Int)=(↑b.length:Int))/\Sm (List.take (↑R.length:Int).toNat (List.drop (Int.toNat (0:Int)) R))/\Sm b)/\(!lessL (List.take (↑R.length:Int).toNat (List.drop (Int.toNat (0:Int)) R)) b)=false)/\(true=true->(0:Int)=(0:Int)/\(tkU false lt R b).F none=(Ex.exit (0:Nat),tkP false none))
theorem tk_e00 (lt:Bool) (p q:Bool) (a b:List Int) (i x:Int) (R:List Int):chkR (tkS p q a b i x R none) ((tkU false lt R b).way (none)) ((run cTe 300).code tkFr tkA (patch (tkS p q a b i x R none) ((tkU false lt R b).S none)))=some (.p (tk_e00_nd lt p q a b i x R)):=by kernel_rfl
def ti_s01_nd (p q:Bool) (a b:List Int) (i x:Int) (R:List Int) (r n:Int):Prop:=((0:Int)=(0:Int)/\(0:Int)=(0:Int))/\digs r.toNat=digs r.toNat
theorem ti_s01 (p q:Bool) (a b:List Int) (i x:Int) (R:List Int) (r n:Int):fit (tiS p q a b i x R none (some (r,n))) (tiS p q a b i x R none (some (r,n))) (patch (tiS p q a b i x R none (some (r,n))) ((tjU 9 (digs r.toNat) b).S (0,0,(digs r.toNat)))) ([])=some (.p (ti_s01_nd p q a b i x R r n)):=by kernel_rfl
def ti_b01_nd (p q:Bool) (a b:List Int) (i x:Int) (R:List Int) (r n:Int) (j c:Int) (d:List Int):Prop:=(decide (j<(↑(digs r.toNat).length:Int))=true->(((0:Int)<=j/\j<(↑(digs r.toNat).length:Int))/\((0:Int)+j).toNat<d.length/\(decide (j<(↑b.length:Int))=true->((0:Int)<=j/\j<(↑b.length:Int))/\j.toNat<b.length)/\((0:Int)+j).toNat<d.length/\d.getD ((0:Int)+j).toNat (0:Int)=d.getD ((0:Int)+j).toNat (0:Int))/\((0:Int)<=j/\j<(↑(digs r.toNat).length:Int))/\((0:Int)+j).toNat<d.length)/\((!decide (j<(↑(digs r.toNat).length:Int)))=true->d=d/\(tjU (9:Nat) (digs r.toNat) b).F (j,c,d)=(Ex.exit (2:Nat),tjF (9:Nat) d))/\(decide (j<(↑(digs r.toNat).length:Int))=true->(((tjC (tjX2 b (tkK (digs r.toNat) b) j c d))=tjC (tjX2 b (tkK (digs r.toNat) b) j c d)/\IntKind.i64.wrap (j+(1:Int))=IntKind.i64.wrap (j+(1:Int)))/\d.set ((0:Int)+j).toNat (tjR (tjX2 b (tkK (digs r.toNat) b) j c d))=d.set ((0:Int)+j).toNat (tjR (tjX2 b (tkK (digs r.toNat) b) j c d)))/\(tjU (9:Nat) (digs r.toNat) b).I ((tjU (9:Nat) (digs r.toNat) b).next (j,c,d))/\(tjU (9:Nat) (digs r.toNat) b).μ ((tjU (9:Nat) (digs r.toNat) b).next (j,c,d))<(tjU (9:Nat) (digs r.toNat) b).μ (j,c,d)/\(tjU (9:Nat) (digs r.toNat) b).F ((tjU (9:Nat) (digs r.toNat) b).next (j,c,d))=(tjU (9:Nat) (digs r.toNat) b).F (j,c,d))
theorem ti_b01 (p q:Bool) (a b:List Int) (i x:Int) (R:List Int) (r n:Int) (j c:Int) (d:List Int):chkR (tiS p q a b i x R none (some (r,n))) ((tjU 9 (digs r.toNat) b).way ((j,c,d))) ((run cL2 300).code tkFr tkB (patch (tiS p q a b i x R none (some (r,n))) ((tjU 9 (digs r.toNat) b).S (j,c,d))))=some (.p (ti_b01_nd p q a b i x R r n j c d)):=by kernel_rfl
def tk_b01_nd (lt:Bool) (p q:Bool) (a b:List Int) (i x:Int) (R:List Int) (r n:Int):Prop:=((((((0:Int)<=(0:Int)/\(0:Int)<=(↑(digs r.toNat).length:Int)/\(0:Int)+(↑(digs r.toNat).length:Int)<=(↑(digs r.toNat).length:Int))/\(↑b.length:Int)=(↑b.length:Int))/\Sm (List.take (↑(digs r.toNat).length:Int).toNat (List.drop (Int.toNat (0:Int)) (digs r.toNat)))/\Sm b)/\(!lessL (List.take (↑(digs r.toNat).length:Int).toNat (List.drop (Int.toNat (0:Int)) (digs r.toNat))) b)=true)/\(((0:Int)<=IntKind.i64.wrap ((↑b.length:Int) - (1:Int))/\IntKind.i64.wrap ((↑b.length:Int) - (1:Int))<(↑(digs r.toNat).length:Int))/\((0:Int)+IntKind.i64.wrap ((↑b.length:Int) - (1:Int))).toNat<(digs r.toNat).length/\((0:Int)<=IntKind.i64.wrap ((↑b.length:Int) - (1:Int))/\IntKind.i64.wrap ((↑b.length:Int) - (1:Int))<(↑b.length:Int))/\(IntKind.i64.wrap ((↑b.length:Int) - (1:Int))).toNat<b.length/\(decide (IntKind.i64.wrap (IntKind.i64.wrap ((↑b.length:Int) - (1:Int))+(1:Int))<(↑(digs r.toNat).length:Int))=true->((0:Int)<=IntKind.i64.wrap (IntKind.i64.wrap ((↑b.length:Int) - (1:Int))+(1:Int))/\IntKind.i64.wrap (IntKind.i64.wrap ((↑b.length:Int) - (1:Int))+(1:Int))<(↑(digs r.toNat).length:Int))/\((0:Int)+IntKind.i64.wrap (IntKind.i64.wrap ((↑b.length:Int) - (1:Int))+(1:Int))).toNat<(digs r.toNat).length)/\(((IntKind.i64.wrap ((↑b.length:Int) - (1:Int))).toNat<b.length/\b.getD (IntKind.i64.wrap ((↑b.length:Int) - (1:Int))).toNat (0:Int)=b.getD (IntKind.i64.wrap ((↑b.length:Int) - (1:Int))).toNat (0:Int))/\((0:Int)+IntKind.i64.wrap ((↑b.length:Int) - (1:Int))).toNat<(digs r.toNat).length/\(digs r.toNat).getD ((0:Int)+IntKind.i64.wrap ((↑b.length:Int) - (1:Int))).toNat (0:Int)=(digs r.toNat).getD ((0:Int)+IntKind.i64.wrap ((↑b.length:Int) - (1:Int))).toNat (0:Int))/\IntKind.i64.wrap (b.getD (IntKind.i64.wrap ((↑b.length:Int) - (1:Int))).toNat (0:Int)+(1:Int))≠(0:Int))/\At (tkFr) (tkFr) (tkB) (tkB) (tiS p q a b i x R none (some (r,n))) (tiS p q a b i x R none (some (r,n)))/\((0:Int)<=(0:Int)/\(0:Int)<=(↑(digs r.toNat).length:Int)/\(0:Int)+(↑(digs r.toNat).length:Int)<=(↑(padL (tkD R (some (r,n))).length (val (tkD R (some (r,n))) - tkK (tkD R (some (r,n))) b*val b)).length:Int))/\Dig (List.take (↑(digs r.toNat).length:Int).toNat (List.drop (Int.toNat (0:Int)) (padL (tkD R (some (r,n))).length (val (tkD R (some (r,n))) - tkK (tkD R (some (r,n))) b*val b))))/\Sm (List.take (↑(digs r.toNat).length:Int).toNat (List.drop (Int.toNat (0:Int)) (padL (tkD R (some (r,n))).length (val (tkD R (some (r,n))) - tkK (tkD R (some (r,n))) b*val b)))))/\(true=true->((((0:Int)=(0:Int)/\(↑(digs (val (List.take (↑(digs r.toNat).length:Int).toNat (List.drop (Int.toNat (0:Int)) (padL (tkD R (some (r,n))).length (val (tkD R (some (r,n))) - tkK (tkD R (some (r,n))) b*val b))))).toNat).length:Int)=(↑(digs (r - tkK (digs r.toNat) b*val b).toNat).length:Int))/\IntKind.i64.wrap (n+tkK (digs r.toNat) b)=IntKind.i64.wrap (n+tkK (digs r.toNat) b))/\digs (val (List.take (↑(digs r.toNat).length:Int).toNat (List.drop (Int.toNat (0:Int)) (padL (tkD R (some (r,n))).length (val (tkD R (some (r,n))) - tkK (tkD R (some (r,n))) b*val b))))).toNat=digs (r - tkK (digs r.toNat) b*val b).toNat)/\(tkU false lt R b).I ((tkU false lt R b).next (some (r,n)))/\(tkU false lt R b).μ ((tkU false lt R b).next (some (r,n)))<(tkU false lt R b).μ (some (r,n))/\(tkU false lt R b).F ((tkU false lt R b).next (some (r,n)))=(tkU false lt R b).F (some (r,n)))
theorem tk_b01 (lt:Bool) (p q:Bool) (a b:List Int) (i x:Int) (R:List Int) (r n:Int):chkR (tkS p q a b i x R none) ((tkU false lt R b).way ((some (r,n)))) ((run (cTi p q a b i x R none (some (r,n))) 300).code tkFr tkA (patch (tkS p q a b i x R none) ((tkU false lt R b).S (some (r,n)))))=some (.p (tk_b01_nd lt p q a b i x R r n)):=by kernel_rfl
def tk_e01_nd (lt:Bool) (p q:Bool) (a b:List Int) (i x:Int) (R:List Int) (r n:Int):Prop:=(((((0:Int)<=(0:Int)/\(0:Int)<=(↑(digs r.toNat).length:Int)/\(0:Int)+(↑(digs r.toNat).length:Int)<=(↑(digs r.toNat).length:Int))/\(↑b.length:Int)=(↑b.length:Int))/\Sm (List.take (↑(digs r.toNat).length:Int).toNat (List.drop (Int.toNat (0:Int)) (digs r.toNat)))/\Sm b)/\(!lessL (List.take (↑(digs r.toNat).length:Int).toNat (List.drop (Int.toNat (0:Int)) (digs r.toNat))) b)=false)/\(true=true->((((0:Int)=(0:Int)/\(↑(digs r.toNat).length:Int)=(↑(digs r.toNat).length:Int))/\n=n)/\digs r.toNat=digs r.toNat)/\(tkU false lt R b).F (some (r,n))=(Ex.exit (0:Nat),tkP false (some (r,n))))
theorem tk_e01 (lt:Bool) (p q:Bool) (a b:List Int) (i x:Int) (R:List Int) (r n:Int):chkR (tkS p q a b i x R none) ((tkU false lt R b).way ((some (r,n)))) ((run cTe 300).code tkFr tkA (patch (tkS p q a b i x R none) ((tkU false lt R b).S (some (r,n)))))=some (.p (tk_e01_nd lt p q a b i x R r n)):=by kernel_rfl
def tk_s0_nd (lt:Bool) (p q:Bool) (a b:List Int) (i x:Int) (R:List Int):Prop:=(0:Int)=(0:Int)
theorem tk_s0 (lt:Bool) (p q:Bool) (a b:List Int) (i x:Int) (R:List Int):fit (tkS p q a b i x R none) (tkS p q a b i x R none) (patch (tkS p q a b i x R none) ((tkU false lt R b).S none)) ([])=some (.p (tk_s0_nd lt p q a b i x R)):=by kernel_rfl
def ti_s10_nd (p q:Bool) (a b:List Int) (i x:Int) (R:List Int) (s:List Int):Prop:=((0:Int)=(0:Int)/\(0:Int)=(0:Int))/\R=R
theorem ti_s10 (p q:Bool) (a b:List Int) (i x:Int) (R:List Int) (s:List Int):fit (tiS p q a b i x R (some s) none) (tiS p q a b i x R (some s) none) (patch (tiS p q a b i x R (some s) none) ((tjU 10 R b).S (0,0,R))) ([])=some (.p (ti_s10_nd p q a b i x R s)):=by kernel_rfl
def ti_b10_nd (p q:Bool) (a b:List Int) (i x:Int) (R:List Int) (s:List Int) (j c:Int) (d:List Int):Prop:=(decide (j<(↑R.length:Int))=true->(((0:Int)<=j/\j<(↑R.length:Int))/\((0:Int)+j).toNat<d.length/\(decide (j<(↑b.length:Int))=true->((0:Int)<=j/\j<(↑b.length:Int))/\j.toNat<b.length)/\((0:Int)+j).toNat<d.length/\d.getD ((0:Int)+j).toNat (0:Int)=d.getD ((0:Int)+j).toNat (0:Int))/\((0:Int)<=j/\j<(↑R.length:Int))/\((0:Int)+j).toNat<d.length)/\((!decide (j<(↑R.length:Int)))=true->d=d/\(tjU (10:Nat) R b).F (j,c,d)=(Ex.exit (2:Nat),tjF (10:Nat) d))/\(decide (j<(↑R.length:Int))=true->(((tjC (tjX2 b (tkK R b) j c d))=tjC (tjX2 b (tkK R b) j c d)/\IntKind.i64.wrap (j+(1:Int))=IntKind.i64.wrap (j+(1:Int)))/\d.set ((0:Int)+j).toNat (tjR (tjX2 b (tkK R b) j c d))=d.set ((0:Int)+j).toNat (tjR (tjX2 b (tkK R b) j c d)))/\(tjU (10:Nat) R b).I ((tjU (10:Nat) R b).next (j,c,d))/\(tjU (10:Nat) R b).μ ((tjU (10:Nat) R b).next (j,c,d))<(tjU (10:Nat) R b).μ (j,c,d)/\(tjU (10:Nat) R b).F ((tjU (10:Nat) R b).next (j,c,d))=(tjU (10:Nat) R b).F (j,c,d))
theorem ti_b10 (p q:Bool) (a b:List Int) (i x:Int) (R:List Int) (s:List Int) (j c:Int) (d:List Int):chkR (tiS p q a b i x R (some s) none) ((tjU 10 R b).way ((j,c,d))) ((run cL2 300).code tkFr tkB (patch (tiS p q a b i x R (some s) none) ((tjU 10 R b).S (j,c,d))))=some (.p (ti_b10_nd p q a b i x R s j c d)):=by kernel_rfl
def tk_b10_nd (lt:Bool) (p q:Bool) (a b:List Int) (i x:Int) (R:List Int) (s:List Int):Prop:=((((((0:Int)<=(0:Int)/\(0:Int)<=(↑R.length:Int)/\(0:Int)+(↑R.length:Int)<=(↑R.length:Int))/\(↑b.length:Int)=(↑b.length:Int))/\Sm (List.take (↑R.length:Int).toNat (List.drop (Int.toNat (0:Int)) R))/\Sm b)/\(!lessL (List.take (↑R.length:Int).toNat (List.drop (Int.toNat (0:Int)) R)) b)=true)/\(((0:Int)<=IntKind.i64.wrap ((↑b.length:Int) - (1:Int))/\IntKind.i64.wrap ((↑b.length:Int) - (1:Int))<(↑R.length:Int))/\((0:Int)+IntKind.i64.wrap ((↑b.length:Int) - (1:Int))).toNat<R.length/\((0:Int)<=IntKind.i64.wrap ((↑b.length:Int) - (1:Int))/\IntKind.i64.wrap ((↑b.length:Int) - (1:Int))<(↑b.length:Int))/\(IntKind.i64.wrap ((↑b.length:Int) - (1:Int))).toNat<b.length/\(decide (IntKind.i64.wrap (IntKind.i64.wrap ((↑b.length:Int) - (1:Int))+(1:Int))<(↑R.length:Int))=true->((0:Int)<=IntKind.i64.wrap (IntKind.i64.wrap ((↑b.length:Int) - (1:Int))+(1:Int))/\IntKind.i64.wrap (IntKind.i64.wrap ((↑b.length:Int) - (1:Int))+(1:Int))<(↑R.length:Int))/\((0:Int)+IntKind.i64.wrap (IntKind.i64.wrap ((↑b.length:Int) - (1:Int))+(1:Int))).toNat<R.length)/\(((IntKind.i64.wrap ((↑b.length:Int) - (1:Int))).toNat<b.length/\b.getD (IntKind.i64.wrap ((↑b.length:Int) - (1:Int))).toNat (0:Int)=b.getD (IntKind.i64.wrap ((↑b.length:Int) - (1:Int))).toNat (0:Int))/\((0:Int)+IntKind.i64.wrap ((↑b.length:Int) - (1:Int))).toNat<R.length/\R.getD ((0:Int)+IntKind.i64.wrap ((↑b.length:Int) - (1:Int))).toNat (0:Int)=R.getD ((0:Int)+IntKind.i64.wrap ((↑b.length:Int) - (1:Int))).toNat (0:Int))/\IntKind.i64.wrap (b.getD (IntKind.i64.wrap ((↑b.length:Int) - (1:Int))).toNat (0:Int)+(1:Int))≠(0:Int))/\At (tkFr) (tkFr) (tkB) (tkB) (tiS p q a b i x R (some s) none) (tiS p q a b i x R (some s) none)/\((0:Int)<=(0:Int)/\(0:Int)<=(↑R.length:Int)/\(0:Int)+(↑R.length:Int)<=(↑(padL (tkD R none).length (val (tkD R none) - tkK (tkD R none) b*val b)).length:Int))/\Dig (List.take (↑R.length:Int).toNat (List.drop (Int.toNat (0:Int)) (padL (tkD R none).length (val (tkD R none) - tkK (tkD R none) b*val b))))/\Sm (List.take (↑R.length:Int).toNat (List.drop (Int.toNat (0:Int)) (padL (tkD R none).length (val (tkD R none) - tkK (tkD R none) b*val b)))))/\(true=true->((((0:Int)=(0:Int)/\(↑(digs (val (List.take (↑R.length:Int).toNat (List.drop (Int.toNat (0:Int)) (padL (tkD R none).length (val (tkD R none) - tkK (tkD R none) b*val b))))).toNat).length:Int)=(↑(digs (val R - tkK R b*val b).toNat).length:Int))/\IntKind.i64.wrap ((0:Int)+tkK R b)=IntKind.i64.wrap ((0:Int)+tkK R b))/\digs (val (List.take (↑R.length:Int).toNat (List.drop (Int.toNat (0:Int)) (padL (tkD R none).length (val (tkD R none) - tkK (tkD R none) b*val b))))).toNat=digs (val R - tkK R b*val b).toNat)/\(tkU true lt R b).I ((tkU true lt R b).next none)/\(tkU true lt R b).μ ((tkU true lt R b).next none)<(tkU true lt R b).μ none/\(tkU true lt R b).F ((tkU true lt R b).next none)=(tkU true lt R b).F none)
theorem tk_b10 (lt:Bool) (p q:Bool) (a b:List Int) (i x:Int) (R:List Int) (s:List Int):chkR (tkS p q a b i x R (some s)) ((tkU true lt R b).way (none)) ((run (cTi p q a b i x R (some s) none) 300).code tkFr tkA (patch (tkS p q a b i x R (some s)) ((tkU true lt R b).S none)))=some (.p (tk_b10_nd lt p q a b i x R s)):=by kernel_rfl
def tk_e10_nd (lt:Bool) (p q:Bool) (a b:List Int) (i x:Int) (R:List Int) (s:List Int):Prop:=(((((0:Int)<=(0:Int)/\(0:Int)<=(↑R.length:Int)/\(0:Int)+(↑R.length:Int)<=(↑R.length:Int))/\(↑b.length:Int)=(↑b.length:Int))/\Sm (List.take (↑R.length:Int).toNat (List.drop (Int.toNat (0:Int)) R))/\Sm b)/\(!lessL (List.take (↑R.length:Int).toNat (List.drop (Int.toNat (0:Int)) R)) b)=false)/\(true=true->(0:Int)=(0:Int)/\(tkU true lt R b).F none=(Ex.exit (0:Nat),tkP true none))
theorem tk_e10 (lt:Bool) (p q:Bool) (a b:List Int) (i x:Int) (R:List Int) (s:List Int):chkR (tkS p q a b i x R (some s)) ((tkU true lt R b).way (none)) ((run cTe 300).code tkFr tkA (patch (tkS p q a b i x R (some s)) ((tkU true lt R b).S none)))=some (.p (tk_e10_nd lt p q a b i x R s)):=by kernel_rfl
def ti_s11_nd (p q:Bool) (a b:List Int) (i x:Int) (R:List Int) (s:List Int) (r n:Int):Prop:=((0:Int)=(0:Int)/\(0:Int)=(0:Int))/\digs r.toNat=digs r.toNat
theorem ti_s11 (p q:Bool) (a b:List Int) (i x:Int) (R:List Int) (s:List Int) (r n:Int):fit (tiS p q a b i x R (some s) (some (r,n))) (tiS p q a b i x R (some s) (some (r,n))) (patch (tiS p q a b i x R (some s) (some (r,n))) ((tjU 11 (digs r.toNat) b).S (0,0,(digs r.toNat)))) ([])=some (.p (ti_s11_nd p q a b i x R s r n)):=by kernel_rfl
def ti_b11_nd (p q:Bool) (a b:List Int) (i x:Int) (R:List Int) (s:List Int) (r n:Int) (j c:Int) (d:List Int):Prop:=(decide (j<(↑(digs r.toNat).length:Int))=true->(((0:Int)<=j/\j<(↑(digs r.toNat).length:Int))/\((0:Int)+j).toNat<d.length/\(decide (j<(↑b.length:Int))=true->((0:Int)<=j/\j<(↑b.length:Int))/\j.toNat<b.length)/\((0:Int)+j).toNat<d.length/\d.getD ((0:Int)+j).toNat (0:Int)=d.getD ((0:Int)+j).toNat (0:Int))/\((0:Int)<=j/\j<(↑(digs r.toNat).length:Int))/\((0:Int)+j).toNat<d.length)/\((!decide (j<(↑(digs r.toNat).length:Int)))=true->d=d/\(tjU (11:Nat) (digs r.toNat) b).F (j,c,d)=(Ex.exit (2:Nat),tjF (11:Nat) d))/\(decide (j<(↑(digs r.toNat).length:Int))=true->(((tjC (tjX2 b (tkK (digs r.toNat) b) j c d))=tjC (tjX2 b (tkK (digs r.toNat) b) j c d)/\IntKind.i64.wrap (j+(1:Int))=IntKind.i64.wrap (j+(1:Int)))/\d.set ((0:Int)+j).toNat (tjR (tjX2 b (tkK (digs r.toNat) b) j c d))=d.set ((0:Int)+j).toNat (tjR (tjX2 b (tkK (digs r.toNat) b) j c d)))/\(tjU (11:Nat) (digs r.toNat) b).I ((tjU (11:Nat) (digs r.toNat) b).next (j,c,d))/\(tjU (11:Nat) (digs r.toNat) b).μ ((tjU (11:Nat) (digs r.toNat) b).next (j,c,d))<(tjU (11:Nat) (digs r.toNat) b).μ (j,c,d)/\(tjU (11:Nat) (digs r.toNat) b).F ((tjU (11:Nat) (digs r.toNat) b).next (j,c,d))=(tjU (11:Nat) (digs r.toNat) b).F (j,c,d))
theorem ti_b11 (p q:Bool) (a b:List Int) (i x:Int) (R:List Int) (s:List Int) (r n:Int) (j c:Int) (d:List Int):chkR (tiS p q a b i x R (some s) (some (r,n))) ((tjU 11 (digs r.toNat) b).way ((j,c,d))) ((run cL2 300).code tkFr tkB (patch (tiS p q a b i x R (some s) (some (r,n))) ((tjU 11 (digs r.toNat) b).S (j,c,d))))=some (.p (ti_b11_nd p q a b i x R s r n j c d)):=by kernel_rfl
def tk_b11_nd (lt:Bool) (p q:Bool) (a b:List Int) (i x:Int) (R:List Int) (s:List Int) (r n:Int):Prop:=((((((0:Int)<=(0:Int)/\(0:Int)<=(↑(digs r.toNat).length:Int)/\(0:Int)+(↑(digs r.toNat).length:Int)<=(↑(digs r.toNat).length:Int))/\(↑b.length:Int)=(↑b.length:Int))/\Sm (List.take (↑(digs r.toNat).length:Int).toNat (List.drop (Int.toNat (0:Int)) (digs r.toNat)))/\Sm b)/\(!lessL (List.take (↑(digs r.toNat).length:Int).toNat (List.drop (Int.toNat (0:Int)) (digs r.toNat))) b)=true)/\(((0:Int)<=IntKind.i64.wrap ((↑b.length:Int) - (1:Int))/\IntKind.i64.wrap ((↑b.length:Int) - (1:Int))<(↑(digs r.toNat).length:Int))/\((0:Int)+IntKind.i64.wrap ((↑b.length:Int) - (1:Int))).toNat<(digs r.toNat).length/\((0:Int)<=IntKind.i64.wrap ((↑b.length:Int) - (1:Int))/\IntKind.i64.wrap ((↑b.length:Int) - (1:Int))<(↑b.length:Int))/\(IntKind.i64.wrap ((↑b.length:Int) - (1:Int))).toNat<b.length/\(decide (IntKind.i64.wrap (IntKind.i64.wrap ((↑b.length:Int) - (1:Int))+(1:Int))<(↑(digs r.toNat).length:Int))=true->((0:Int)<=IntKind.i64.wrap (IntKind.i64.wrap ((↑b.length:Int) - (1:Int))+(1:Int))/\IntKind.i64.wrap (IntKind.i64.wrap ((↑b.length:Int) - (1:Int))+(1:Int))<(↑(digs r.toNat).length:Int))/\((0:Int)+IntKind.i64.wrap (IntKind.i64.wrap ((↑b.length:Int) - (1:Int))+(1:Int))).toNat<(digs r.toNat).length)/\(((IntKind.i64.wrap ((↑b.length:Int) - (1:Int))).toNat<b.length/\b.getD (IntKind.i64.wrap ((↑b.length:Int) - (1:Int))).toNat (0:Int)=b.getD (IntKind.i64.wrap ((↑b.length:Int) - (1:Int))).toNat (0:Int))/\((0:Int)+IntKind.i64.wrap ((↑b.length:Int) - (1:Int))).toNat<(digs r.toNat).length/\(digs r.toNat).getD ((0:Int)+IntKind.i64.wrap ((↑b.length:Int) - (1:Int))).toNat (0:Int)=(digs r.toNat).getD ((0:Int)+IntKind.i64.wrap ((↑b.length:Int) - (1:Int))).toNat (0:Int))/\IntKind.i64.wrap (b.getD (IntKind.i64.wrap ((↑b.length:Int) - (1:Int))).toNat (0:Int)+(1:Int))≠(0:Int))/\At (tkFr) (tkFr) (tkB) (tkB) (tiS p q a b i x R (some s) (some (r,n))) (tiS p q a b i x R (some s) (some (r,n)))/\((0:Int)<=(0:Int)/\(0:Int)<=(↑(digs r.toNat).length:Int)/\(0:Int)+(↑(digs r.toNat).length:Int)<=(↑(padL (tkD R (some (r,n))).length (val (tkD R (some (r,n))) - tkK (tkD R (some (r,n))) b*val b)).length:Int))/\Dig (List.take (↑(digs r.toNat).length:Int).toNat (List.drop (Int.toNat (0:Int)) (padL (tkD R (some (r,n))).length (val (tkD R (some (r,n))) - tkK (tkD R (some (r,n))) b*val b))))/\Sm (List.take (↑(digs r.toNat).length:Int).toNat (List.drop (Int.toNat (0:Int)) (padL (tkD R (some (r,n))).length (val (tkD R (some (r,n))) - tkK (tkD R (some (r,n))) b*val b)))))/\(true=true->((((0:Int)=(0:Int)/\(↑(digs (val (List.take (↑(digs r.toNat).length:Int).toNat (List.drop (Int.toNat (0:Int)) (padL (tkD R (some (r,n))).length (val (tkD R (some (r,n))) - tkK (tkD R (some (r,n))) b*val b))))).toNat).length:Int)=(↑(digs (r - tkK (digs r.toNat) b*val b).toNat).length:Int))/\IntKind.i64.wrap (n+tkK (digs r.toNat) b)=IntKind.i64.wrap (n+tkK (digs r.toNat) b))/\digs (val (List.take (↑(digs r.toNat).length:Int).toNat (List.drop (Int.toNat (0:Int)) (padL (tkD R (some (r,n))).length (val (tkD R (some (r,n))) - tkK (tkD R (some (r,n))) b*val b))))).toNat=digs (r - tkK (digs r.toNat) b*val b).toNat)/\(tkU true lt R b).I ((tkU true lt R b).next (some (r,n)))/\(tkU true lt R b).μ ((tkU true lt R b).next (some (r,n)))<(tkU true lt R b).μ (some (r,n))/\(tkU true lt R b).F ((tkU true lt R b).next (some (r,n)))=(tkU true lt R b).F (some (r,n)))
theorem tk_b11 (lt:Bool) (p q:Bool) (a b:List Int) (i x:Int) (R:List Int) (s:List Int) (r n:Int):chkR (tkS p q a b i x R (some s)) ((tkU true lt R b).way ((some (r,n)))) ((run (cTi p q a b i x R (some s) (some (r,n))) 300).code tkFr tkA (patch (tkS p q a b i x R (some s)) ((tkU true lt R b).S (some (r,n)))))=some (.p (tk_b11_nd lt p q a b i x R s r n)):=by kernel_rfl
def tk_e11_nd (lt:Bool) (p q:Bool) (a b:List Int) (i x:Int) (R:List Int) (s:List Int) (r n:Int):Prop:=(((((0:Int)<=(0:Int)/\(0:Int)<=(↑(digs r.toNat).length:Int)/\(0:Int)+(↑(digs r.toNat).length:Int)<=(↑(digs r.toNat).length:Int))/\(↑b.length:Int)=(↑b.length:Int))/\Sm (List.take (↑(digs r.toNat).length:Int).toNat (List.drop (Int.toNat (0:Int)) (digs r.toNat)))/\Sm b)/\(!lessL (List.take (↑(digs r.toNat).length:Int).toNat (List.drop (Int.toNat (0:Int)) (digs r.toNat))) b)=false)/\(true=true->((((0:Int)=(0:Int)/\(↑(digs r.toNat).length:Int)=(↑(digs r.toNat).length:Int))/\n=n)/\digs r.toNat=digs r.toNat)/\(tkU true lt R b).F (some (r,n))=(Ex.exit (0:Nat),tkP true (some (r,n))))
theorem tk_e11 (lt:Bool) (p q:Bool) (a b:List Int) (i x:Int) (R:List Int) (s:List Int) (r n:Int):chkR (tkS p q a b i x R (some s)) ((tkU true lt R b).way ((some (r,n)))) ((run cTe 300).code tkFr tkA (patch (tkS p q a b i x R (some s)) ((tkU true lt R b).S (some (r,n)))))=some (.p (tk_e11_nd lt p q a b i x R s r n)):=by kernel_rfl
def tk_s1_nd (lt:Bool) (p q:Bool) (a b:List Int) (i x:Int) (R:List Int) (s:List Int):Prop:=(0:Int)=(0:Int)
theorem tk_s1 (lt:Bool) (p q:Bool) (a b:List Int) (i x:Int) (R:List Int) (s:List Int):fit (tkS p q a b i x R (some s)) (tkS p q a b i x R (some s)) (patch (tkS p q a b i x R (some s)) ((tkU true lt R b).S none)) ([])=some (.p (tk_s1_nd lt p q a b i x R s)):=by kernel_rfl
end
end Go.Proofs.YtkbndjnibcjchaaGreatDoor.K
namespace Go.Proofs.YtkbndjnibcjchaaGreatDoor.K
open Go Go.Eng Go.Dg
noncomputable section
def tj_nd (id:Nat) (D b:List Int) (j c:Int) (d:List Int):Prop:=(decide (j<(↑D.length:Int))=true->(((0:Int)<=j/\j<(↑D.length:Int))/\((0:Int)+j).toNat<d.length/\(decide (j<(↑b.length:Int))=true->((0:Int)<=j/\j<(↑b.length:Int))/\j.toNat<b.length)/\((0:Int)+j).toNat<d.length/\d.getD ((0:Int)+j).toNat (0:Int)=d.getD ((0:Int)+j).toNat (0:Int))/\((0:Int)<=j/\j<(↑D.length:Int))/\((0:Int)+j).toNat<d.length)/\((!decide (j<(↑D.length:Int)))=true->d=d/\(tjU id D b).F (j,c,d)=(Ex.exit (2:Nat),tjF id d))/\(decide (j<(↑D.length:Int))=true->(((tjC (tjX2 b (tkK D b) j c d))=tjC (tjX2 b (tkK D b) j c d)/\IntKind.i64.wrap (j+(1:Int))=IntKind.i64.wrap (j+(1:Int)))/\d.set ((0:Int)+j).toNat (tjR (tjX2 b (tkK D b) j c d))=d.set ((0:Int)+j).toNat (tjR (tjX2 b (tkK D b) j c d)))/\(tjU id D b).I ((tjU id D b).next (j,c,d))/\(tjU id D b).μ ((tjU id D b).next (j,c,d))<(tjU id D b).μ (j,c,d)/\(tjU id D b).F ((tjU id D b).next (j,c,d))=(tjU id D b).F (j,c,d))
def tkA_nd (D b:List Int):Prop:=(((((0:Int)<=(0:Int)/\(0:Int)<=(↑D.length:Int)/\(0:Int)+(↑D.length:Int)<=(↑D.length:Int))/\(↑b.length:Int)=(↑b.length:Int))/\Sm (List.take (↑D.length:Int).toNat (List.drop (Int.toNat (0:Int)) D))/\Sm b)/\(!lessL (List.take (↑D.length:Int).toNat (List.drop (Int.toNat (0:Int)) D)) b)=true)/\(((0:Int)<=IntKind.i64.wrap ((↑b.length:Int) - (1:Int))/\IntKind.i64.wrap ((↑b.length:Int) - (1:Int))<(↑D.length:Int))/\((0:Int)+IntKind.i64.wrap ((↑b.length:Int) - (1:Int))).toNat<D.length/\((0:Int)<=IntKind.i64.wrap ((↑b.length:Int) - (1:Int))/\IntKind.i64.wrap ((↑b.length:Int) - (1:Int))<(↑b.length:Int))/\(IntKind.i64.wrap ((↑b.length:Int) - (1:Int))).toNat<b.length/\(decide (IntKind.i64.wrap (IntKind.i64.wrap ((↑b.length:Int) - (1:Int))+(1:Int))<(↑D.length:Int))=true->((0:Int)<=IntKind.i64.wrap (IntKind.i64.wrap ((↑b.length:Int) - (1:Int))+(1:Int))/\IntKind.i64.wrap (IntKind.i64.wrap ((↑b.length:Int) - (1:Int))+(1:Int))<(↑D.length:Int))/\((0:Int)+IntKind.i64.wrap (IntKind.i64.wrap ((↑b.length:Int) - (1:Int))+(1:Int))).toNat<D.length)/\(((IntKind.i64.wrap ((↑b.length:Int) - (1:Int))).toNat<b.length/\b.getD (IntKind.i64.wrap ((↑b.length:Int) - (1:Int))).toNat (0:Int)=b.getD (IntKind.i64.wrap ((↑b.length:Int) - (1:Int))).toNat (0:Int))/\((0:Int)+IntKind.i64.wrap ((↑b.length:Int) - (1:Int))).toNat<D.length/\D.getD ((0:Int)+IntKind.i64.wrap ((↑b.length:Int) - (1:Int))).toNat (0:Int)=D.getD ((0:Int)+IntKind.i64.wrap ((↑b.length:Int) - (1:Int))).toNat (0:Int))/\IntKind.i64.wrap (b.getD (IntKind.i64.wrap ((↑b.length:Int) - (1:Int))).toNat (0:Int)+(1:Int))≠(0:Int))
def tkC_nd (D b:List Int):Prop:=((0:Int)<=(0:Int)/\(0:Int)<=(↑D.length:Int)/\(0:Int)+(↑D.length:Int)<=(↑(padL (D).length (val (D) - tkK (D) b*val b)).length:Int))/\Dig (List.take (↑D.length:Int).toNat (List.drop (Int.toNat (0:Int)) (padL (D).length (val (D) - tkK (D) b*val b))))/\Sm (List.take (↑D.length:Int).toNat (List.drop (Int.toNat (0:Int)) (padL (D).length (val (D) - tkK (D) b*val b))))
def tkE_nd (D b:List Int):Prop:=((((0:Int)<=(0:Int)/\(0:Int)<=(↑D.length:Int)/\(0:Int)+(↑D.length:Int)<=(↑D.length:Int))/\(↑b.length:Int)=(↑b.length:Int))/\Sm (List.take (↑D.length:Int).toNat (List.drop (Int.toNat (0:Int)) D))/\Sm b)/\(!lessL (List.take (↑D.length:Int).toNat (List.drop (Int.toNat (0:Int)) D)) b)=false
end
end Go.Proofs.YtkbndjnibcjchaaGreatDoor.K
namespace Go.Proofs.YtkbndjnibcjchaaGreatDoor.K
open Go Go.Eng Go.Dg
noncomputable section
structure TkD (D b:List Int):Prop where
 hD:Dig D
 tD:Top D
 sD:D.length<=500000
 hb:Dig b
 tb:Top b
 sb:b.length<=500000
 ne:b≠[]
 lt:val D<1000000000*val b
theorem TkD.spec {D b:List Int} (h:TkD D b) (hge:val b<=val D):1<=tkK D b/\tkK D b<1000000000/\tkK D b*val b<=val D/\b.length<=D.length:=tkK_spec h.hD h.tD h.hb h.tb h.sb h.ne hge h.lt
theorem TkD.pos {D b:List Int} (h:TkD D b):0<val b:=by
 have:=val_nonneg h.hb
 have:=val_ne h.hb h.tb h.ne
 omega
theorem tjX2_eq (b:List Int) (k j c:Int) (d:List Int):tjX2 b k j c d=tjX b k j c d:=by
 unfold tjX2 tjX
 rw [show (0+j)=j by omega]
theorem tj_cond {id:Nat} {D b:List Int} (h:TkD D b) (hge:val b<=val D) {j c:Int} {d:List Int} (hI:tjI D b (tkK D b) j c d):tj_nd id D b j c d:=by
 obtain ⟨k1,k2,k3,k4⟩:=h.spec hge
 have hv:=h.pos
 obtain ⟨h1,h2,h3,h4,h5,h6,h7⟩:=_root_.id hI
 have sD:=h.sD
 have e0:(0+j).toNat=j.toNat:=by omega
 refine ⟨fun hj=>?_,fun hj=>⟨rfl,?_⟩,fun hj=>?_⟩
 .have hj:=dt.1 hj
  rw [e0]
  refine ⟨⟨⟨h3,hj⟩,by omega,fun hb=>?_,by omega,rfl⟩,⟨h3,hj⟩,by omega⟩
  have hb:=dt.1 hb
  exact ⟨⟨h3,hb⟩,by omega⟩
 .have hj:=ndt.1 hj
  have:j=D.length:=by omega
  subst this
  show (Ex.exit 2,tjF id (padL D.length (val D - tkK D b*val b)))=_
  rw [<- tjI_end h.hD k4 k3 (Int.mul_nonneg (by omega) (by omega)) hI]
 .have hj:=dt.1 hj
  have st:=tjI_step h.hb ⟨by omega,k2⟩ hI hj
  have e1:IntKind.i64.wrap (j+1)=j+1:=iw (by omega) (by omega)
  refine ⟨⟨⟨rfl,rfl⟩,rfl⟩,?_,?_,rfl⟩
  .show tjI D b (tkK D b) (IntKind.i64.wrap (j+1)) (tjC (tjX2 b (tkK D b) j c d)) (d.set (0+j).toNat (tjR (tjX2 b (tkK D b) j c d)))
   rw [e0,e1,tjX2_eq]; exact st
  .show (D.length - IntKind.i64.wrap (j+1)).toNat<(D.length - j).toNat
   rw [e1]; omega
theorem ti_loop (p q:Bool) (a:List Int) {b:List Int} (i x:Int) {R:List Int} (o:Option (List Int)) (y:Option (Int×Int)) (h:TkD (tkD R y) b) (hge:val b<=val (tkD R y)):
  CodeOk cTh tkFr (.loop tkB) (tiS p q a b i x R o y) ⟨.tt,[⟨.tt,.exit 2,patch (tiS p q a b i x R o y) (tjF (tkId o.isSome y) (padL (tkD R y).length (val (tkD R y) - tkK (tkD R y) b*val b)))⟩]⟩:=by
 have key:∀ (id:Nat),(Holds (fit (tiS p q a b i x R o y) (tiS p q a b i x R o y) (patch (tiS p q a b i x R o y) ((tjU id (tkD R y) b).S (0,0,tkD R y))) []))->oldsOk (tiS p q a b i x R o y).hp ((tjU id (tkD R y) b).S (0,0,tkD R y)).old=true ->
   (∀ j c d,chkR (tiS p q a b i x R o y) ((tjU id (tkD R y) b).way (j,c,d)) ((run cL2 300).code tkFr tkB (patch (tiS p q a b i x R o y) ((tjU id (tkD R y) b).S (j,c,d))))=some (.p (tj_nd id (tkD R y) b j c d))) ->
   CodeOk cTh tkFr (.loop tkB) (tiS p q a b i x R o y) ⟨.tt,[⟨.tt,.exit 2,patch (tiS p q a b i x R o y) (tjF id (padL (tkD R y).length (val (tkD R y) - tkK (tkD R y) b*val b)))⟩]⟩:=by
  intro id h1 h2 h3
  exact sumL_oneC (tjU id (tkD R y) b) (y0:=(0,0,tkD R y)) (tjI_start h.hD) h1 h2 (fun z hz=>by
   obtain ⟨j,c,d⟩:=z
   exact ⟨cL2,300,cL2_ok,rfl,rfl,_,h3 j c d,tj_cond h hge hz⟩) rfl
 cases o with
 | none=>cases y with
  | none=>exact key 8 ⟨_,ti_s00 p q a b i x R,⟨⟨rfl,rfl⟩,rfl⟩⟩ (by kernel_rfl) (fun j c d=>ti_b00 p q a b i x R j c d)
  | some y=>exact key 9 ⟨_,ti_s01 p q a b i x R y.1 y.2,⟨⟨rfl,rfl⟩,rfl⟩⟩ (by kernel_rfl) (fun j c d=>ti_b01 p q a b i x R y.1 y.2 j c d)
 | some s=>cases y with
  | none=>exact key 10 ⟨_,ti_s10 p q a b i x R s,⟨⟨rfl,rfl⟩,rfl⟩⟩ (by kernel_rfl) (fun j c d=>ti_b10 p q a b i x R s j c d)
  | some y=>exact key 11 ⟨_,ti_s11 p q a b i x R s y.1 y.2,⟨⟨rfl,rfl⟩,rfl⟩⟩ (by kernel_rfl) (fun j c d=>ti_b11 p q a b i x R s y.1 y.2 j c d)
theorem cTi_ok (p q:Bool) (a:List Int) {b:List Int} (i x:Int) {R:List Int} (o:Option (List Int)) (y:Option (Int×Int)) (h:TkD (tkD R y) b) (hge:val b<=val (tkD R y)):CtxOk (cTi p q a b i x R o y):=
 withLoop_ok cTh_ok (ti_loop p q a i x o y h hge) (withNone_ok cTh_ok)
theorem lessn {D b:List Int} (h:TkD D b) (hge:val b<=val D):lessL D b=false:=by
 cases e:lessL D b with
 | false=>rfl
 | true=>have:=(lessL_iff h.hD h.hb h.tD h.tb).1 e; omega
theorem tkA_cond {D b:List Int} (h:TkD D b) (hge:val b<=val D):tkA_nd D b:=by
 obtain ⟨k1,k2,k3,k4⟩:=h.spec hge
 have sD:=h.sD
 have sb:=h.sb
 have hp:=List.length_pos_iff.2 h.ne
 have e1:IntKind.i64.wrap ((b.length:Int) - 1)=b.length - 1:=iw (by omega) (by omega)
 have e2:IntKind.i64.wrap ((b.length:Int) - 1+1)=b.length:=by rw [iw (by omega) (by omega)]; omega
 have g:=h.hb.get (b.length - 1)
 have e3:IntKind.i64.wrap (b.getD (b.length - 1) 0+1)=b.getD (b.length - 1) 0+1:=iw (by omega) (by omega)
 unfold tkA_nd
 rw [td,e1,e2,show (0+((b.length:Int) - 1)).toNat=b.length - 1 by omega,show ((b.length:Int) - 1).toNat=b.length - 1 by omega,show (0+(b.length:Int)).toNat=b.length by omega,e3]
 refine ⟨⟨⟨⟨lenp,rfl⟩,h.sD,h.sb⟩,by rw [lessn h hge]; rfl⟩,⟨by omega,by omega⟩,by omega,⟨by omega,by omega⟩,by omega,fun hlt=>?_,⟨⟨by omega,rfl⟩,by omega,rfl⟩,by omega⟩
 have:=dt.1 hlt
 exact ⟨⟨by omega,this⟩,by omega⟩
theorem tk_pad {D b:List Int} (h:TkD D b) (hge:val b<=val D):List.take (D.length:Int).toNat (List.drop (Int.toNat 0) (padL D.length (val D - tkK D b*val b)))=padL D.length (val D - tkK D b*val b)/\val (padL D.length (val D - tkK D b*val b))=val D - tkK D b*val b:=by
 obtain ⟨k1,k2,k3,k4⟩:=h.spec hge
 have hv:=h.pos
 have:=val_lt h.hD
 have m:=Int.mul_nonneg (show 0<=tkK D b by omega) (show 0<=val b by omega)
 have e:=td (padL D.length (val D - tkK D b*val b))
 rw [padL_len] at e
 exact ⟨e,padL_val (by omega) (by omega)⟩
theorem tkC_cond {D b:List Int} (h:TkD D b) (hge:val b<=val D):tkC_nd D b:=by
 obtain ⟨e1,e2⟩:=tk_pad h hge
 have sD:=h.sD
 unfold tkC_nd
 rw [e1]
 exact ⟨by rw [padL_len]; omega,padL_dig _ _,by show _<=500000; rw [padL_len]; exact sD⟩
theorem tkE_cond {D b:List Int} (h:TkD D b) (hlt:val D<val b):tkE_nd D b:=by
 unfold tkE_nd
 rw [td]
 exact ⟨⟨⟨lenp,rfl⟩,h.sD,h.sb⟩,by rw [(lessL_iff h.hD h.hb h.tD h.tb).2 hlt]; rfl⟩
end
end Go.Proofs.YtkbndjnibcjchaaGreatDoor.K
namespace Go.Proofs.YtkbndjnibcjchaaGreatDoor.K
open Go Go.Eng Go.Dg
noncomputable section
theorem tkD_ok {R b:List Int} (h:TkD R b):∀ {y:Option (Int×Int)} {w lt:Bool},(tkU w lt R b).I y->TkD (tkD R y) b
 | none,_,_,_=>h
 | some (r,n),_,_,hI=>by
  obtain ⟨h1,h2,h3,h4⟩:=(show 0<=r/\0<=n/\r+n*val b=val R/\_ from hI)
  have hv:=h.pos
  have m:=Int.mul_nonneg h2 (show 0<=val b by omega)
  have hlt:=val_lt h.hD
  have sD:=h.sD
  have lt:=h.lt
  have e:(r.toNat:Int)=r:=by omega
  refine ⟨dig_digs _,top_digs _,?_,h.hb,h.tb,h.sb,h.ne,?_⟩
  .have:=len_digs (n:=r.toNat) (k:=R.length) (by omega)
   show (digs r.toNat).length<=500000
   omega
  .show val (digs r.toNat)<_
   rw [val_digs]; omega
theorem tkD_val {R b:List Int} {r n:Int} {w lt:Bool} (hI:(tkU w lt R b).I (some (r,n))):val (digs r.toNat)=r:=by
 obtain ⟨h1,_⟩:=(show 0<=r/\0<=n/\r+n*val b=val R/\_ from hI)
 rw [val_digs]; omega
theorem tk_next {D b:List Int} (h:TkD D b) (hge:val b<=val D):digs (val (List.take (D.length:Int).toNat (List.drop (Int.toNat 0) (padL D.length (val D - tkK D b*val b))))).toNat=digs (val D - tkK D b*val b).toNat:=by
 obtain ⟨e1,e2⟩:=tk_pad h hge
 rw [e1,e2]
theorem tk_loop (p q:Bool) (a:List Int) {b:List Int} (i x:Int) {R:List Int} (o:Option (List Int)) (h:TkD R b) {lt:Bool} (hl:lt=decide (val R<val b)):
  CodeOk cL2 tkFr (.loop tkA) (tkS p q a b i x R o) ⟨.tt,[⟨.tt,.exit 0,patch (tkS p q a b i x R o) (tkP o.isSome (tkE R b lt))⟩]⟩:=by
 have hv:=h.pos
 have q1:∀ w,val b<=val R->(tkU w lt R b).I (some (val R - tkK R b*val b,IntKind.i64.wrap (0+tkK R b)))/\(val R - tkK R b*val b).toNat<(val R).toNat+1:=by
  intro w hge
  obtain ⟨k1,k2,k3,k4⟩:=h.spec hge
  have e:IntKind.i64.wrap (0+tkK R b)=tkK R b:=by rw [iw (by omega) (by omega)]; omega
  have m:=Int.mul_nonneg (show 0<=tkK R b by omega) (show 0<=val b by omega)
  refine ⟨?_,by omega⟩
  show 0<=val R - tkK R b*val b/\0<=IntKind.i64.wrap (0+tkK R b)/\val R - tkK R b*val b+IntKind.i64.wrap (0+tkK R b)*val b=val R/\lt=false
  rw [e]
  exact ⟨by omega,by omega,by omega,by rw [hl]; exact decide_eq_false (by omega)⟩
 have q2:∀ w r n,(tkU w lt R b).I (some (r,n))->val b<=r->(tkU w lt R b).I (some (r - tkK (digs r.toNat) b*val b,IntKind.i64.wrap (n+tkK (digs r.toNat) b)))/\(r - tkK (digs r.toNat) b*val b).toNat<r.toNat:=by
  intro w r n hI hge
  have hD:TkD (digs r.toNat) b:=tkD_ok h hI
  have ev:=tkD_val hI
  obtain ⟨k1,k2,k3,k4⟩:=hD.spec (by rw [ev]; exact hge)
  obtain ⟨h1,h2,h3,h4⟩:=(show 0<=r/\0<=n/\r+n*val b=val R/\lt=false from hI)
  rw [ev] at k3
  have hlt:=h.lt
  have m1:1*val b<=tkK (digs r.toNat) b*val b:=Int.mul_le_mul_of_nonneg_right k1 (by omega)
  have m2:(n+tkK (digs r.toNat) b)*val b<1000000000*val b:=by rw [Int.add_mul]; omega
  have m3:=Int.lt_of_mul_lt_mul_right m2 (by omega)
  have e:IntKind.i64.wrap (n+tkK (digs r.toNat) b)=n+tkK (digs r.toNat) b:=iw (by omega) (by omega)
  refine ⟨?_,by omega⟩
  show 0<=r - tkK (digs r.toNat) b*val b/\0<=IntKind.i64.wrap (n+tkK (digs r.toNat) b)/\r - tkK (digs r.toNat) b*val b+IntKind.i64.wrap (n+tkK (digs r.toNat) b)*val b=val R/\lt=false
  rw [e,Int.add_mul]
  exact ⟨by omega,by omega,by omega,h4⟩
 have q3:val R<val b->tkE R b lt=none:=by
  intro h; rw [hl,decide_eq_true h]; rfl
 have q4:∀ w r n,(tkU w lt R b).I (some (r,n))->r<val b->tkE R b lt=some (r,n):=by
  intro w r n hI hlt
  obtain ⟨h1,h2,h3,h4⟩:=(show 0<=r/\0<=n/\r+n*val b=val R/\lt=false from hI)
  rw [h4]
  show some (val R % val b,val R / val b)=some (r,n)
  rw [<- h3,Int.add_mul_emod_self_right,Int.emod_eq_of_lt h1 hlt,Int.add_mul_ediv_right _ _ (by omega),Int.ediv_eq_zero_of_lt h1 hlt]
  simp
 cases o with
 | none=>
  refine sumL_oneC (tkU false lt R b) (y0:=none) trivial ⟨_,tk_s0 lt p q a b i x R,rfl⟩ (by kernel_rfl) (fun y hy=>?_) rfl
  have hD:=tkD_ok h hy
  cases y with
  | none=>
   by_cases hge:val b<=val R
   .obtain ⟨r1,r2⟩:=q1 false hge
    exact ⟨cTi p q a b i x R none none,300,cTi_ok p q a i x none none h hge,rfl,rfl,_,tk_b00 lt p q a b i x R,⟨(tkA_cond h hge).1,(tkA_cond h hge).2,⟨rfl,rfl,rfl⟩,tkC_cond h hge⟩,fun _=>⟨⟨⟨⟨rfl,by rw [show tkD R none=R from rfl,tk_next h hge]⟩,rfl⟩,tk_next h hge⟩,r1,r2,rfl⟩⟩
   .exact ⟨cTe,300,cTe_ok,rfl,rfl,_,tk_e00 lt p q a b i x R,tkE_cond h (by omega),fun _=>⟨rfl,by show (Ex.exit 0,tkP false (tkE R b lt))=_; rw [q3 (by omega)]⟩⟩
  | some y=>
   obtain ⟨r,n⟩:=y
   have ev:=tkD_val hy
   have hD:TkD (digs r.toNat) b:=hD
   by_cases hge:val b<=r
   .obtain ⟨r1,r2⟩:=q2 false r n hy hge
    have hge2:val b<=val (digs r.toNat):=by rw [ev]; exact hge
    have nx:=tk_next hD hge2
    rw [ev] at nx
    have nx2:digs (val (List.take ((digs r.toNat).length:Int).toNat (List.drop (Int.toNat 0) (padL (tkD R (some (r,n))).length (val (tkD R (some (r,n))) - tkK (tkD R (some (r,n))) b*val b))))).toNat=digs (r - tkK (digs r.toNat) b*val b).toNat:=by
     rw [show tkD R (some (r,n))=digs r.toNat from rfl,ev]; exact nx
    exact ⟨cTi p q a b i x R none (some (r,n)),300,cTi_ok p q a i x none (some (r,n)) hD hge2,rfl,rfl,_,tk_b01 lt p q a b i x R r n,⟨(tkA_cond hD hge2).1,(tkA_cond hD hge2).2,⟨rfl,rfl,rfl⟩,tkC_cond hD hge2⟩,fun _=>⟨⟨⟨⟨rfl,by rw [nx2]⟩,rfl⟩,nx2⟩,r1,r2,rfl⟩⟩
   .exact ⟨cTe,300,cTe_ok,rfl,rfl,_,tk_e01 lt p q a b i x R r n,tkE_cond hD (by rw [ev]; omega),fun _=>⟨⟨⟨⟨rfl,rfl⟩,rfl⟩,rfl⟩,by show (Ex.exit 0,tkP false (tkE R b lt))=_; rw [q4 false r n hy (by omega)]⟩⟩
 | some s=>
  refine sumL_oneC (tkU true lt R b) (y0:=none) trivial ⟨_,tk_s1 lt p q a b i x R s,rfl⟩ (by kernel_rfl) (fun y hy=>?_) rfl
  have hD:=tkD_ok h hy
  cases y with
  | none=>
   by_cases hge:val b<=val R
   .obtain ⟨r1,r2⟩:=q1 true hge
    exact ⟨cTi p q a b i x R (some s) none,300,cTi_ok p q a i x (some s) none h hge,rfl,rfl,_,tk_b10 lt p q a b i x R s,⟨(tkA_cond h hge).1,(tkA_cond h hge).2,⟨rfl,rfl,rfl⟩,tkC_cond h hge⟩,fun _=>⟨⟨⟨⟨rfl,by rw [show tkD R none=R from rfl,tk_next h hge]⟩,rfl⟩,tk_next h hge⟩,r1,r2,rfl⟩⟩
   .exact ⟨cTe,300,cTe_ok,rfl,rfl,_,tk_e10 lt p q a b i x R s,tkE_cond h (by omega),fun _=>⟨rfl,by show (Ex.exit 0,tkP true (tkE R b lt))=_; rw [q3 (by omega)]⟩⟩
  | some y=>
   obtain ⟨r,n⟩:=y
   have ev:=tkD_val hy
   have hD:TkD (digs r.toNat) b:=hD
   by_cases hge:val b<=r
   .obtain ⟨r1,r2⟩:=q2 true r n hy hge
    have hge2:val b<=val (digs r.toNat):=by rw [ev]; exact hge
    have nx:=tk_next hD hge2
    rw [ev] at nx
    have nx2:digs (val (List.take ((digs r.toNat).length:Int).toNat (List.drop (Int.toNat 0) (padL (tkD R (some (r,n))).length (val (tkD R (some (r,n))) - tkK (tkD R (some (r,n))) b*val b))))).toNat=digs (r - tkK (digs r.toNat) b*val b).toNat:=by
     rw [show tkD R (some (r,n))=digs r.toNat from rfl,ev]; exact nx
    exact ⟨cTi p q a b i x R (some s) (some (r,n)),300,cTi_ok p q a i x (some s) (some (r,n)) hD hge2,rfl,rfl,_,tk_b11 lt p q a b i x R s r n,⟨(tkA_cond hD hge2).1,(tkA_cond hD hge2).2,⟨rfl,rfl,rfl⟩,tkC_cond hD hge2⟩,fun _=>⟨⟨⟨⟨rfl,by rw [nx2]⟩,rfl⟩,nx2⟩,r1,r2,rfl⟩⟩
   .exact ⟨cTe,300,cTe_ok,rfl,rfl,_,tk_e11 lt p q a b i x R s r n,tkE_cond hD (by rw [ev]; omega),fun _=>⟨⟨⟨⟨rfl,rfl⟩,rfl⟩,rfl⟩,by show (Ex.exit 0,tkP true (tkE R b lt))=_; rw [q4 true r n hy (by omega)]⟩⟩
end
end Go.Proofs.YtkbndjnibcjchaaGreatDoor.K
namespace Go.Proofs.YtkbndjnibcjchaaGreatDoor.K
open Go Go.Eng Go.Dg
noncomputable section
def paO (a b:List Int):Option Int->Option (List Int)
 | none=>none
 | some i=>some (paR a b i)
def paI (a:List Int):Option Int->Int
 | none=>a.length - 1
 | some i=>i
def paX (a:List Int) (y:Option Int):Int:=a.getD (paI a y).toNat 0
def paT (a b:List Int) (y:Option Int):List Int:=tkR (paX a y) (paO a b y)
def paN (a:List Int):Option Int->Int
 | none=>IntKind.i64.wrap ((a.length:Int) - 1 - 1)
 | some i=>IntKind.i64.wrap (i - 1)
def paE (a b:List Int):Patch:=⟨(7,.islice true 7 0 (paR a b (-1)).length) :: (8,.any false) :: (9,.any false) :: deadT 18 24,[(6,.ints .i64 (paQ a b (-1)))],[.ints .i64 (paR a b (-1))]⟩
def paU (a b:List Int):SumL (Option Int×Bool):=
 {
  S:=fun (y,_)=>paP a b y
  I:=fun (y,l)=>l=decide (val (paT a b y)<val b)/\-1<=paI a y/\paI a y<a.length/\(y=none->0<=paI a y)
  μ:=fun (y,_)=>(paI a y+1).toNat
  F:=fun _=>(.exit 0,paE a b)
  next:=fun (y,_)=>(some (paN a y),decide (val (paT a b (some (paN a y)))<val b))
  ids:=fun (y,l)=>match y with
   | none=>(match l with|true=>[8]|false=>[9])
   | some _=>(match l with|true=>[10]|false=>[11])
  X:=fun (y,_) _=>match y with
   | none=>some (⟨(7,.any false) :: (8,.any false) :: (9,.any false) :: deadT 18 24,[(6,.dead)],[]⟩,[])
   | some i=>some (⟨(7,.islice true 7 0 (paR a b i).length) :: (8,.any false) :: (9,.any false) :: deadT 18 24,[(6,.ints .i64 (paQ a b i))],[.ints .i64 (paR a b i)]⟩,[7]) }
def cHt (t:Nat):Ctx:=hinting cL2 (hintsT [(t,.bool false true)])
theorem cHt_ok (t:Nat):CtxOk (cHt t):=hinting_ok cL2_ok _
noncomputable def cPa (p q:Bool) (a b:List Int) (y:Option Int) (l:Bool):Ctx:=withLoops (cHt 19) [oneLoop 123 44 tkFr tkA (tkS p q a b (paI a y) (paX a y) (paT a b y) (paO a b y)) (.exit 0) (tkP (paO a b y).isSome (tkE (paT a b y) b l))]
noncomputable def cPaL (p q:Bool) (a b:List Int):Ctx:=withLoops cL2 [oneLoop 103 (paS p q a b).hp.clock paFr paA (paS p q a b) (.exit 0) (paE a b)]
end
end Go.Proofs.YtkbndjnibcjchaaGreatDoor.K
namespace Go.Proofs.YtkbndjnibcjchaaGreatDoor.K
open Go Go.Eng Go.Dg
noncomputable section
def pa_start_nd (p q:Bool) (a b:List Int):Prop:=IntKind.i64.wrap ((↑a.length:Int) - (1:Int))=(↑a.length:Int) - (1:Int)/\List.replicate (↑a.length:Int).toNat (0:Int)=paQ a b ((↑a.length:Int) - (1:Int))
theorem pa_start (p q:Bool) (a b:List Int):fit (paS p q a b) (paS p q a b) (patch (paS p q a b) (paP a b none)) ([])=some (.p (pa_start_nd p q a b)):=by kernel_rfl
def pa_b0t_nd (p q:Bool) (a b:List Int):Prop:=(decide ((↑a.length:Int) - (1:Int)>=(0:Int))=true/\(((0:Int)<=(↑a.length:Int) - (1:Int)/\(↑a.length:Int) - (1:Int)<(↑a.length:Int))/\((↑a.length:Int) - (1:Int)).toNat<a.length)/\(Dig [a.getD ((↑a.length:Int) - (1:Int)).toNat (0:Int)]/\Sm [a.getD ((↑a.length:Int) - (1:Int)).toNat (0:Int)])/\(↑b.length:Int)=(↑b.length:Int)/\At (tkFr) (tkFr) (tkA) (tkA) (tkS p q a b (paI a none) (paX a none) (paT a b none) (paO a b none)) (tkS p q a b (paI a none) (paX a none) (paT a b none) (paO a b none))/\((0:Int)<=(↑a.length:Int) - (1:Int)/\(↑a.length:Int) - (1:Int)<(↑a.length:Int))/\((0:Int)+((↑a.length:Int) - (1:Int))).toNat<(paQ a b (paI a none)).length)/\(true=true->((((0:Int)=(0:Int)/\(↑(paT a b none).length:Int)=(↑(paR a b (paN a none)).length:Int))/\IntKind.i64.wrap ((↑a.length:Int) - (1:Int) - (1:Int))=paN a none)/\(paQ a b (paI a none)).set ((0:Int)+((↑a.length:Int) - (1:Int))).toNat (0:Int)=paQ a b (paN a none)/\paT a b none=paR a b (paN a none))/\(paU a b).I ((paU a b).next (none,true))/\(paU a b).μ ((paU a b).next (none,true))<(paU a b).μ (none,true)/\(paU a b).F ((paU a b).next (none,true))=(paU a b).F (none,true))
theorem pa_b0t (p q:Bool) (a b:List Int):chkR (paS p q a b) ((paU a b).way ((none,true))) ((run (cPa p q a b none true) 300).code paFr paA (patch (paS p q a b) ((paU a b).S (none,true))))=some (.p (pa_b0t_nd p q a b)):=by kernel_rfl
def pa_b0f_nd (p q:Bool) (a b:List Int):Prop:=(decide ((↑a.length:Int) - (1:Int)>=(0:Int))=true/\(((0:Int)<=(↑a.length:Int) - (1:Int)/\(↑a.length:Int) - (1:Int)<(↑a.length:Int))/\((↑a.length:Int) - (1:Int)).toNat<a.length)/\(Dig [a.getD ((↑a.length:Int) - (1:Int)).toNat (0:Int)]/\Sm [a.getD ((↑a.length:Int) - (1:Int)).toNat (0:Int)])/\(↑b.length:Int)=(↑b.length:Int)/\At (tkFr) (tkFr) (tkA) (tkA) (tkS p q a b (paI a none) (paX a none) (paT a b none) (paO a b none)) (tkS p q a b (paI a none) (paX a none) (paT a b none) (paO a b none))/\((0:Int)<=(↑a.length:Int) - (1:Int)/\(↑a.length:Int) - (1:Int)<(↑a.length:Int))/\((0:Int)+((↑a.length:Int) - (1:Int))).toNat<(paQ a b (paI a none)).length)/\(true=true->((((0:Int)=(0:Int)/\(↑(digs (val (paT a b none) % val b).toNat).length:Int)=(↑(paR a b (paN a none)).length:Int))/\IntKind.i64.wrap ((↑a.length:Int) - (1:Int) - (1:Int))=paN a none)/\(paQ a b (paI a none)).set ((0:Int)+((↑a.length:Int) - (1:Int))).toNat (val (paT a b none) / val b)=paQ a b (paN a none)/\digs (val (paT a b none) % val b).toNat=paR a b (paN a none))/\(paU a b).I ((paU a b).next (none,false))/\(paU a b).μ ((paU a b).next (none,false))<(paU a b).μ (none,false)/\(paU a b).F ((paU a b).next (none,false))=(paU a b).F (none,false))
theorem pa_b0f (p q:Bool) (a b:List Int):chkR (paS p q a b) ((paU a b).way ((none,false))) ((run (cPa p q a b none false) 300).code paFr paA (patch (paS p q a b) ((paU a b).S (none,false))))=some (.p (pa_b0f_nd p q a b)):=by kernel_rfl
def pa_b1t_nd (p q:Bool) (a b:List Int) (i:Int):Prop:=(decide (i>=(0:Int))=true/\(((0:Int)<=i/\i<(↑a.length:Int))/\i.toNat<a.length/\((0:Int)<=(0:Int)/\(0:Int)<=(↑(paR a b i).length:Int)/\(0:Int)+(↑(paR a b i).length:Int)<=(↑(paR a b i).length:Int))/\(↑(1:Nat):Int)+(↑(paR a b i).length:Int)<=(1048576:Int))/\(((0:Int)<=(0:Int)/\(0:Int)<=(↑(1:Nat):Int)+(↑(paR a b i).length:Int)/\(0:Int)+((↑(1:Nat):Int)+(↑(paR a b i).length:Int))<=(↑([a.getD i.toNat (0:Int)]++List.take (↑(paR a b i).length:Int).toNat (List.drop (Int.toNat (0:Int)) (paR a b i))).length:Int))/\Dig (List.take ((↑(1:Nat):Int)+(↑(paR a b i).length:Int)).toNat (List.drop (Int.toNat (0:Int)) ([a.getD i.toNat (0:Int)]++List.take (↑(paR a b i).length:Int).toNat (List.drop (Int.toNat (0:Int)) (paR a b i)))))/\Sm (List.take ((↑(1:Nat):Int)+(↑(paR a b i).length:Int)).toNat (List.drop (Int.toNat (0:Int)) ([a.getD i.toNat (0:Int)]++List.take (↑(paR a b i).length:Int).toNat (List.drop (Int.toNat (0:Int)) (paR a b i))))))/\(↑b.length:Int)=(↑b.length:Int)/\At (tkFr) (tkFr) (tkA) (tkA) (tkS p q a b (paI a (some i)) (paX a (some i)) (paT a b (some i)) (paO a b (some i))) (tkS p q a b (paI a (some i)) (paX a (some i)) (paT a b (some i)) (paO a b (some i)))/\((0:Int)<=i/\i<(↑a.length:Int))/\((0:Int)+i).toNat<(paQ a b (paI a (some i))).length)/\(true=true->((((0:Int)=(0:Int)/\(↑(paT a b (some i)).length:Int)=(↑(paR a b (paN a (some i))).length:Int))/\IntKind.i64.wrap (i - (1:Int))=paN a (some i))/\(paQ a b (paI a (some i))).set ((0:Int)+i).toNat (0:Int)=paQ a b (paN a (some i))/\paT a b (some i)=paR a b (paN a (some i)))/\(paU a b).I ((paU a b).next (some i,true))/\(paU a b).μ ((paU a b).next (some i,true))<(paU a b).μ (some i,true)/\(paU a b).F ((paU a b).next (some i,true))=(paU a b).F (some i,true))
theorem pa_b1t (p q:Bool) (a b:List Int) (i:Int):chkR (paS p q a b) ((paU a b).way (((some i),true))) ((run (cPa p q a b (some i) true) 300).code paFr paA (patch (paS p q a b) ((paU a b).S ((some i),true))))=some (.p (pa_b1t_nd p q a b i)):=by kernel_rfl
def pa_b1f_nd (p q:Bool) (a b:List Int) (i:Int):Prop:=(decide (i>=(0:Int))=true/\(((0:Int)<=i/\i<(↑a.length:Int))/\i.toNat<a.length/\((0:Int)<=(0:Int)/\(0:Int)<=(↑(paR a b i).length:Int)/\(0:Int)+(↑(paR a b i).length:Int)<=(↑(paR a b i).length:Int))/\(↑(1:Nat):Int)+(↑(paR a b i).length:Int)<=(1048576:Int))/\(((0:Int)<=(0:Int)/\(0:Int)<=(↑(1:Nat):Int)+(↑(paR a b i).length:Int)/\(0:Int)+((↑(1:Nat):Int)+(↑(paR a b i).length:Int))<=(↑([a.getD i.toNat (0:Int)]++List.take (↑(paR a b i).length:Int).toNat (List.drop (Int.toNat (0:Int)) (paR a b i))).length:Int))/\Dig (List.take ((↑(1:Nat):Int)+(↑(paR a b i).length:Int)).toNat (List.drop (Int.toNat (0:Int)) ([a.getD i.toNat (0:Int)]++List.take (↑(paR a b i).length:Int).toNat (List.drop (Int.toNat (0:Int)) (paR a b i)))))/\Sm (List.take ((↑(1:Nat):Int)+(↑(paR a b i).length:Int)).toNat (List.drop (Int.toNat (0:Int)) ([a.getD i.toNat (0:Int)]++List.take (↑(paR a b i).length:Int).toNat (List.drop (Int.toNat (0:Int)) (paR a b i))))))/\(↑b.length:Int)=(↑b.length:Int)/\At (tkFr) (tkFr) (tkA) (tkA) (tkS p q a b (paI a (some i)) (paX a (some i)) (paT a b (some i)) (paO a b (some i))) (tkS p q a b (paI a (some i)) (paX a (some i)) (paT a b (some i)) (paO a b (some i)))/\((0:Int)<=i/\i<(↑a.length:Int))/\((0:Int)+i).toNat<(paQ a b (paI a (some i))).length)/\(true=true->((((0:Int)=(0:Int)/\(↑(digs (val (paT a b (some i)) % val b).toNat).length:Int)=(↑(paR a b (paN a (some i))).length:Int))/\IntKind.i64.wrap (i - (1:Int))=paN a (some i))/\(paQ a b (paI a (some i))).set ((0:Int)+i).toNat (val (paT a b (some i)) / val b)=paQ a b (paN a (some i))/\digs (val (paT a b (some i)) % val b).toNat=paR a b (paN a (some i)))/\(paU a b).I ((paU a b).next (some i,false))/\(paU a b).μ ((paU a b).next (some i,false))<(paU a b).μ (some i,false)/\(paU a b).F ((paU a b).next (some i,false))=(paU a b).F (some i,false))
theorem pa_b1f (p q:Bool) (a b:List Int) (i:Int):chkR (paS p q a b) ((paU a b).way (((some i),false))) ((run (cPa p q a b (some i) false) 300).code paFr paA (patch (paS p q a b) ((paU a b).S ((some i),false))))=some (.p (pa_b1f_nd p q a b i)):=by kernel_rfl
def pa_e_nd (p q:Bool) (a b:List Int) (i:Int) (l:Bool):Prop:=decide (i>=(0:Int))=false/\(true=true->(((0:Int)=(0:Int)/\(↑(paR a b i).length:Int)=(↑(paR a b i).length:Int))/\paQ a b i=paQ a b i/\paR a b i=paR a b i)/\(paU a b).F (some i,l)=(Ex.exit (0:Nat),{ tm:=((7:Nat),AV.islice true (7:Nat) (0:Int) (↑(paR a b i).length:Int)) :: ((8:Nat),AV.any false) :: ((9:Nat),AV.any false) :: deadT (18:Nat) (24:Nat),old:=[((6:Nat),ABody.ints IntKind.i64 (paQ a b i))],new:=[ABody.ints IntKind.i64 (paR a b i)] }))
theorem pa_e (p q:Bool) (a b:List Int) (i:Int) (l:Bool):chkR (paS p q a b) ((paU a b).way ((some i,l))) ((run (cHf 19) 300).code paFr paA (patch (paS p q a b) ((paU a b).S (some i,l))))=some (.p (pa_e_nd p q a b i l)):=by kernel_rfl
def pr_l_nd (p q:Bool) (a b:List Int):Prop:=(((↑a.length:Int)=(↑a.length:Int)/\(0:Int)<=(↑a.length:Int)/\(↑a.length:Int)<=(1048576:Int))/\At (paFr) (paFr) (paA) (paA) (paS p q a b) (paS p q a b)/\(((0:Int)<=(0:Int)/\(0:Int)<=(↑a.length:Int)/\(0:Int)+(↑a.length:Int)<=(↑(paQ a b (-1:Int)).length:Int))/\Dig (List.take (↑a.length:Int).toNat (List.drop (Int.toNat (0:Int)) (paQ a b (-1:Int))))/\Sm (List.take (↑a.length:Int).toNat (List.drop (Int.toNat (0:Int)) (paQ a b (-1:Int)))))/\p=p/\((0:Int)<=(0:Int)/\(0:Int)<=(↑(paR a b (-1:Int)).length:Int)/\(0:Int)+(↑(paR a b (-1:Int)).length:Int)<=(↑(paR a b (-1:Int)).length:Int))/\Dig (List.take (↑(paR a b (-1:Int)).length:Int).toNat (List.drop (Int.toNat (0:Int)) (paR a b (-1:Int))))/\Sm (List.take (↑(paR a b (-1:Int)).length:Int).toNat (List.drop (Int.toNat (0:Int)) (paR a b (-1:Int)))))
def pr_l_v (p q:Bool) (a b:List Int):AV:=(AV.tuple [AV.agg [AV.bool true (!p==q&&decide (val (List.take (↑a.length:Int).toNat (List.drop (Int.toNat (0:Int)) (paQ a b (-1:Int))))≠(0:Int))),AV.islice true 2 (0:Int) (↑(digs (val (List.take (↑a.length:Int).toNat (List.drop (Int.toNat (0:Int)) (paQ a b (-1:Int))))).toNat).length:Int)],AV.agg [AV.bool true (p&&decide (val (List.take (↑(paR a b (-1:Int)).length:Int).toNat (List.drop (Int.toNat (0:Int)) (paR a b (-1:Int))))≠(0:Int))),AV.islice true 3 (0:Int) (↑(digs (val (List.take (↑(paR a b (-1:Int)).length:Int).toNat (List.drop (Int.toNat (0:Int)) (paR a b (-1:Int))))).toNat).length:Int)]])
def pr_l_h (p q:Bool) (a b:List Int):Hp:=⟨[{ wr:=30,body:=ABody.ints IntKind.i64 (digs (val (List.take (↑(paR a b (-1:Int)).length:Int).toNat (List.drop (Int.toNat (0:Int)) (paR a b (-1:Int))))).toNat) },{ wr:=29,body:=ABody.ints IntKind.i64 (digs (val (List.take (↑a.length:Int).toNat (List.drop (Int.toNat (0:Int)) (paQ a b (-1:Int))))).toNat) },{ wr:=(0:Nat),body:=ABody.rows IntKind.i64 b },{ wr:=(0:Nat),body:=ABody.rows IntKind.i64 a }],4,32⟩
theorem pr_l (p q:Bool) (a b:List Int):(run (cPaL p q a b) 300).call 103 (suArgs p q a b) (leH a b)=some ⟨.p (pr_l_nd p q a b),[⟨.tt,pr_l_v p q a b,pr_l_h p q a b⟩]⟩:=by kernel_rfl
def pr_z_nd (p q:Bool) (a b:List Int):Prop:=(((↑a.length:Int)=(↑a.length:Int)/\(0:Int)<=(↑a.length:Int)/\(↑a.length:Int)<=(1048576:Int))/\decide (IntKind.i64.wrap ((↑a.length:Int) - (1:Int))>=(0:Int))=false/\(((0:Int)<=(0:Int)/\(0:Int)<=(↑a.length:Int)/\(0:Int)+(↑a.length:Int)<=(↑(List.replicate (↑a.length:Int).toNat (0:Int)).length:Int))/\Dig (List.take (↑a.length:Int).toNat (List.drop (Int.toNat (0:Int)) (List.replicate (↑a.length:Int).toNat (0:Int))))/\Sm (List.take (↑a.length:Int).toNat (List.drop (Int.toNat (0:Int)) (List.replicate (↑a.length:Int).toNat (0:Int)))))/\p=p/\Dig []/\Sm [])
def pr_z_v (p q:Bool) (a b:List Int):AV:=(AV.tuple [AV.agg [AV.bool true (!p==q&&decide (val (List.take (↑a.length:Int).toNat (List.drop (Int.toNat (0:Int)) (List.replicate (↑a.length:Int).toNat (0:Int))))≠(0:Int))),AV.islice true 2 (0:Int) (↑(digs (val (List.take (↑a.length:Int).toNat (List.drop (Int.toNat (0:Int)) (List.replicate (↑a.length:Int).toNat (0:Int))))).toNat).length:Int)],AV.agg [AV.bool true (p&&decide (val []≠(0:Int))),AV.islice true 3 (0:Int) (↑(digs (val []).toNat).length:Int)]])
def pr_z_h (p q:Bool) (a b:List Int):Hp:=⟨[{ wr:=31,body:=ABody.ints IntKind.i64 (digs (val []).toNat) },{ wr:=30,body:=ABody.ints IntKind.i64 (digs (val (List.take (↑a.length:Int).toNat (List.drop (Int.toNat (0:Int)) (List.replicate (↑a.length:Int).toNat (0:Int))))).toNat) },{ wr:=(0:Nat),body:=ABody.rows IntKind.i64 b },{ wr:=(0:Nat),body:=ABody.rows IntKind.i64 a }],4,33⟩
theorem pr_z (p q:Bool) (a b:List Int):(run (cHf 19) 300).call 103 (suArgs p q a b) (leH a b)=some ⟨.p (pr_z_nd p q a b),[⟨.tt,pr_z_v p q a b,pr_z_h p q a b⟩]⟩:=by kernel_rfl
end
end Go.Proofs.YtkbndjnibcjchaaGreatDoor.K
namespace Go.Proofs.YtkbndjnibcjchaaGreatDoor.K
open Go Go.Eng Go.Dg
noncomputable section
structure PaD (a b:List Int):Prop where
 ha:Dig a
 hb:Dig b
 tb:Top b
 ne:b≠[]
 sm:a.length+b.length<=400000
theorem PaD.pos {a b:List Int} (h:PaD a b):0<val b:=by
 have:=val_nonneg h.hb
 have:=val_ne h.hb h.tb h.ne
 omega
theorem tkR_some (x:Int) (r:List Int):tkR x (some r)=digs (x+1000000000*val r).toNat:=by
 show digs (val (List.take ((↑(1:Nat):Int)+(↑r.length:Int)).toNat (List.drop (Int.toNat 0) ([x]++List.take (↑r.length:Int).toNat (List.drop (Int.toNat 0) r))))).toNat=_
 rw [td,show (Int.toNat 0)=0 from rfl,List.drop_zero,List.take_of_length_le (by simp; omega)]
 rfl
theorem paT_eq {a b:List Int} (h:PaD a b) (y:Option Int) (hy:∀ i,y=some i->True):paT a b y=digs (paV a b (paI a y)).toNat:=by
 have hv:=h.pos
 cases y with
 | none=>
  show digs (val [a.getD ((a.length:Int) - 1).toNat 0]).toNat=digs (paV a b ((a.length:Int) - 1)).toNat
  unfold paV
  rw [dA_top]
  simp [val]
 | some i=>
  show tkR (a.getD i.toNat 0) (some (paR a b i))=digs (paV a b i).toNat
  rw [tkR_some]
  unfold paR paV
  rw [val_digs]
  have:=Int.emod_nonneg (dA a i) (show val b≠0 by omega)
  rw [show (((val (a.drop (i+1).toNat) % val b).toNat:Nat):Int)=dA a i % val b from by
   show (((dA a i % val b).toNat:Nat):Int)=_
   omega]
theorem paT_val {a b:List Int} (h:PaD a b) (y:Option Int):val (paT a b y)=paV a b (paI a y):=by
 have:=paV_bd h.ha h.pos (paI a y)
 rw [paT_eq h y (fun _ _=>trivial),val_digs]; omega
theorem len_lt {n:Nat} {b:List Int} (hb:Dig b) (h:(n:Int)<1000000000*val b):(digs n).length<=b.length+1:=by
 have:=val_lt hb
 have e:pw (b.length+1)=1000000000*pw b.length:=rfl
 exact len_digs (by omega)
theorem paT_ok {a b:List Int} (h:PaD a b) (y:Option Int):TkD (paT a b y) b:=by
 have hb:=paV_bd h.ha h.pos (paI a y)
 have sm:=h.sm
 have hl:(digs (paV a b (paI a y)).toNat).length<=b.length+1:=len_lt h.hb (by omega)
 refine ⟨?_,?_,?_,h.hb,h.tb,by omega,h.ne,?_⟩
 .rw [paT_eq h y (fun _ _=>trivial)]; exact dig_digs _
 .rw [paT_eq h y (fun _ _=>trivial)]; exact top_digs _
 .rw [paT_eq h y (fun _ _=>trivial)]; omega
 .rw [paT_val h]; exact hb.2
theorem cPa_ok (p q:Bool) {a b:List Int} (h:PaD a b) (y:Option Int) {l:Bool} (hl:l=decide (val (paT a b y)<val b)):CtxOk (cPa p q a b y l):=
 withLoop_ok (cHt_ok 19) (CodeOk.ctx (C:=cL2) (D:=cHt 19) rfl rfl (tk_loop p q a (paI a y) (paX a y) (paO a b y) (paT_ok h y) hl)) (withNone_ok (cHt_ok 19))
theorem paR_len {a b:List Int} (h:PaD a b) (i:Int):Dig (paR a b i)/\(paR a b i).length<=b.length:=by
 have hv:=h.pos
 have h1:=Int.emod_nonneg (val (a.drop (i+1).toNat)) (show val b≠0 by omega)
 have h2:=Int.emod_lt_of_pos (val (a.drop (i+1).toNat)) hv
 have h3:=val_lt h.hb
 exact ⟨dig_digs _,len_digs (by omega)⟩
theorem paN_eq {a b:List Int} (h:PaD a b) (y:Option Int) (h0:0<=paI a y) (h1:paI a y<a.length):paN a y=paI a y - 1:=by
 have sm:=h.sm
 cases y with
 | none=>
  show IntKind.i64.wrap ((a.length:Int) - 1 - 1)=a.length - 1 - 1
  exact iw (by omega) (by omega)
 | some i=>
  have h0:0<=i:=h0
  have h1:i<a.length:=h1
  show IntKind.i64.wrap (i - 1)=i - 1
  exact iw (by omega) (by omega)
theorem pa_next {a b:List Int} (h:PaD a b) (y:Option Int) (h0:0<=paI a y) (h1:paI a y<a.length):
  (val (paT a b y)<val b->paT a b y=paR a b (paN a y)/\(paQ a b (paI a y)).set (0+paI a y).toNat 0=paQ a b (paN a y)) /\
  (¬ val (paT a b y)<val b->digs (val (paT a b y) % val b).toNat=paR a b (paN a y)/\(paQ a b (paI a y)).set (0+paI a y).toNat (val (paT a b y) / val b)=paQ a b (paN a y)):=by
 have hv:=h.pos
 have hb:=paV_bd h.ha hv (paI a y)
 have e:=paT_val h y
 have r:=paR_next (a:=a) hv h0 h1
 have q:=paQ_next h.ha hv h0 h1
 rw [paN_eq h y h0 h1,show (0+paI a y).toNat=(paI a y).toNat by omega,e]
 refine ⟨fun hlt=>?_,fun hge=>⟨r.symm,q⟩⟩
 rw [Int.emod_eq_of_lt hb.1 hlt] at r
 rw [Int.ediv_eq_zero_of_lt hb.1 hlt] at q
 exact ⟨by rw [r,paT_eq h y (fun _ _=>trivial)],q⟩
theorem pa_loop (p q:Bool) {a b:List Int} (h:PaD a b) (h0:0<a.length):CodeOk cL2 paFr (.loop paA) (paS p q a b) ⟨.tt,[⟨.tt,.exit 0,patch (paS p q a b) (paE a b)⟩]⟩:=by
 have sm:=h.sm
 refine sumL_oneC (paU a b) (y0:=(none,decide (val (paT a b none)<val b))) ⟨rfl,by show -1<=(a.length:Int) - 1; omega,by show (a.length:Int) - 1<a.length; omega,fun _=>by show 0<=(a.length:Int) - 1; omega⟩ ⟨_,pa_start p q a b,?_⟩ (by kernel_rfl) (fun z hz=>?_) rfl
 .exact ⟨iw (by omega) (by omega),by rw [show ((a.length:Int)).toNat=a.length by omega]; exact paQ_top a b⟩
 obtain ⟨y,l⟩:=z
 obtain ⟨hl,i0,i1,i2⟩:=(show l=decide (val (paT a b y)<val b)/\-1<=paI a y/\paI a y<a.length/\(y=none->0<=paI a y) from hz)
 have nxt:0<=paI a y->∀ l,(paU a b).I ((paU a b).next (y,l))/\(paU a b).μ ((paU a b).next (y,l))<(paU a b).μ (y,l):=by
  intro hi l
  have e:=paN_eq h y hi i1
  refine ⟨⟨rfl,?_,?_,fun h=>by cases h⟩,?_⟩
  .show -1<=paN a y
   omega
  .show paN a y<a.length
   omega
  .show (paN a y+1).toNat<(paI a y+1).toNat
   omega
 by_cases hi:0<=paI a y
 .obtain ⟨n1,n2⟩:=pa_next h y hi i1
  obtain ⟨m1,m2⟩:=nxt hi l
  have hq:∀ y,(paQ a b (paI a y)).length=a.length:=fun y=>padL_len _ _
  have hT:=(paT_ok h y)
  cases y with
  | none=>
   have hi:0<=(a.length:Int) - 1:=hi
   have hg:=h.ha.get ((a.length:Int) - 1).toNat
   have hd:Dig [a.getD ((a.length:Int) - 1).toNat 0]/\Sm [a.getD ((a.length:Int) - 1).toNat 0]:=⟨dig_cons.2 ⟨hg,dig_nil⟩,by show 1<=500000; omega⟩
   cases l with
   | true=>
    obtain ⟨e1,e2⟩:=n1 (of_decide_eq_true hl.symm)
    exact ⟨cPa p q a b none true,300,cPa_ok p q h none hl,rfl,rfl,_,pa_b0t p q a b,⟨decide_eq_true hi,⟨⟨hi,by omega⟩,by omega⟩,hd,rfl,⟨rfl,rfl,rfl⟩,⟨hi,by omega⟩,by rw [hq]; omega⟩,fun _=>⟨⟨⟨⟨rfl,by rw [e1]⟩,rfl⟩,e2,e1⟩,m1,m2,rfl⟩⟩
   | false=>
    obtain ⟨e1,e2⟩:=n2 (of_decide_eq_false hl.symm)
    exact ⟨cPa p q a b none false,300,cPa_ok p q h none hl,rfl,rfl,_,pa_b0f p q a b,⟨decide_eq_true hi,⟨⟨hi,by omega⟩,by omega⟩,hd,rfl,⟨rfl,rfl,rfl⟩,⟨hi,by omega⟩,by rw [hq]; omega⟩,fun _=>⟨⟨⟨⟨rfl,by rw [e1]⟩,rfl⟩,e2,e1⟩,m1,m2,rfl⟩⟩
  | some i=>
   have hi:0<=i:=hi
   have i1:i<a.length:=i1
   have hg:=h.ha.get i.toNat
   obtain ⟨r1,r2⟩:=paR_len h i
   have ee:List.take ((↑(1:Nat):Int)+(↑(paR a b i).length:Int)).toNat (List.drop (Int.toNat 0) ([a.getD i.toNat 0]++List.take (↑(paR a b i).length:Int).toNat (List.drop (Int.toNat 0) (paR a b i))))=a.getD i.toNat 0 :: paR a b i:=by
    rw [td,show (Int.toNat 0)=0 from rfl,List.drop_zero,List.take_of_length_le (by simp; omega)]
    rfl
   have hd:(((0:Int)<=0/\(0:Int)<=(↑(1:Nat):Int)+(↑(paR a b i).length:Int)/\(0:Int)+((↑(1:Nat):Int)+(↑(paR a b i).length:Int))<=(↑([a.getD i.toNat (0:Int)]++List.take (↑(paR a b i).length:Int).toNat (List.drop (Int.toNat (0:Int)) (paR a b i))).length:Int))/\Dig (List.take ((↑(1:Nat):Int)+(↑(paR a b i).length:Int)).toNat (List.drop (Int.toNat 0) ([a.getD i.toNat 0]++List.take (↑(paR a b i).length:Int).toNat (List.drop (Int.toNat 0) (paR a b i)))))/\Sm (List.take ((↑(1:Nat):Int)+(↑(paR a b i).length:Int)).toNat (List.drop (Int.toNat 0) ([a.getD i.toNat 0]++List.take (↑(paR a b i).length:Int).toNat (List.drop (Int.toNat 0) (paR a b i)))))):=by
    rw [ee]
    refine ⟨?_,dig_cons.2 ⟨hg,r1⟩,by show (_ :: paR a b i).length<=500000; simp only [List.length_cons]; omega⟩
    rw [td]
    simp only [List.length_append,List.length_cons,List.length_nil]
    omega
   cases l with
   | true=>
    obtain ⟨e1,e2⟩:=n1 (of_decide_eq_true hl.symm)
    exact ⟨cPa p q a b (some i) true,300,cPa_ok p q h (some i) hl,rfl,rfl,_,pa_b1t p q a b i,⟨decide_eq_true hi,⟨⟨hi,i1⟩,by omega,lenp,by omega⟩,hd,rfl,⟨rfl,rfl,rfl⟩,⟨hi,i1⟩,by rw [hq]; omega⟩,fun _=>⟨⟨⟨⟨rfl,by rw [e1]⟩,rfl⟩,e2,e1⟩,m1,m2,rfl⟩⟩
   | false=>
    obtain ⟨e1,e2⟩:=n2 (of_decide_eq_false hl.symm)
    exact ⟨cPa p q a b (some i) false,300,cPa_ok p q h (some i) hl,rfl,rfl,_,pa_b1f p q a b i,⟨decide_eq_true hi,⟨⟨hi,i1⟩,by omega,lenp,by omega⟩,hd,rfl,⟨rfl,rfl,rfl⟩,⟨hi,i1⟩,by rw [hq]; omega⟩,fun _=>⟨⟨⟨⟨rfl,by rw [e1]⟩,rfl⟩,e2,e1⟩,m1,m2,rfl⟩⟩
 .cases y with
  | none=>exact absurd (i2 rfl) hi
  | some i=>
   have i0:-1<=i:=i0
   have hi:¬ 0<=i:=hi
   have:i=-1:=by omega
   subst this
   exact ⟨cHf 19,300,cHf_ok 19,rfl,rfl,_,pa_e p q a b (-1) l,rfl,fun _=>⟨⟨⟨rfl,rfl⟩,rfl,rfl⟩,rfl⟩⟩
theorem cPaL_ok (p q:Bool) {a b:List Int} (h:PaD a b) (h0:0<a.length):CtxOk (cPaL p q a b):=withLoop_ok cL2_ok (pa_loop p q h h0) (withNone_ok cL2_ok)
def ptV:List Nu->List (List Int)->Option (Prop×To)
 | [.t p,.t q],[a,b]=>some (okL p a/\okL q b/\b≠[]/\a.length+b.length<=400000,.tu [lgT false ((zv p a).tdiv (zv q b)),lgT false ((zv p a).tmod (zv q b))])
 | _,_=>none
theorem parts_ok:NOk Tryz.prog (fun _=>none) hG0 103 (mSpec hG0 .i64 [.st [.nu .b,.li],.st [.nu .b,.li]] ptV):=by
 refine msp_runs (fun xs ys p t e h=>?_) ⟨_,Tryz.func103,rfl⟩
 unfold ptV at e
 split at e
 .rename_i p q a b
  cases e
  obtain ⟨ha,hb,hne,hsm⟩:=h
  have hP:PaD a b:=⟨ha.1,hb.1,hb.2.1,hne,hsm⟩
  have va:=val_nonneg ha.1
  have vb:=hP.pos
  have q0:0<=val a / val b:=Int.ediv_nonneg va (by omega)
  have r0:=Int.emod_nonneg (val a) (show val b≠0 by omega)
  have hzq:(zv p a).tdiv (zv q b)=bif (!p==q) then -(val a / val b) else val a / val b:=by
   rw [<- Int.tdiv_eq_ediv_of_nonneg va]
   cases p <;> cases q <;> simp [zv,Int.neg_tdiv,Int.tdiv_neg]
  have hzr:(zv p a).tmod (zv q b)=bif p then -(val a % val b) else val a % val b:=by
   rw [<- Int.tmod_eq_emod_of_nonneg va]
   cases p <;> cases q <;> simp [zv,Int.neg_tmod,Int.tmod_neg]
  by_cases h0:a=[]
  .subst h0
   refine ⟨cHf 19,300,suArgs p q [] b,_,_,_,_,_,cHf_ok 19,rfl,rfl,⟨⟨rfl,rfl,trivial⟩,⟨rfl,rfl,trivial⟩,trivial⟩,pr_z p q [] b,rfl,⟨⟨rfl,by decide,by decide⟩,by decide,⟨by decide,dig_nil,by show 0<=500000; omega⟩,rfl,dig_nil,by show 0<=500000; omega⟩,rfl,rfl,⟨⟨?_,?_,?_⟩,⟨?_,?_,?_⟩⟩⟩
   .show (!p==q&&decide (val []≠0))=decide ((zv p []).tdiv (zv q b)<0)
    exact sgn_eq (v:=val ([]:List Int)) (by decide) (by rw [hzq]; simp [val])
   .exact lenp
   .show List.take ((digs (val ([]:List Int)).toNat).length:Int).toNat (List.drop (Int.toNat 0) (digs (val ([]:List Int)).toNat))=digs ((zv p []).tdiv (zv q b)).natAbs
    rw [td,abs_eq (v:=val ([]:List Int)) (p:=!p==q) (z:=(zv p []).tdiv (zv q b)) (by decide) (by rw [hzq]; simp [val])]
   .show (p&&decide (val []≠0))=decide ((zv p []).tmod (zv q b)<0)
    exact sgn_eq (v:=val ([]:List Int)) (by decide) (by rw [hzr]; simp [val])
   .exact lenp
   .show List.take ((digs (val ([]:List Int)).toNat).length:Int).toNat (List.drop (Int.toNat 0) (digs (val ([]:List Int)).toNat))=digs ((zv p []).tmod (zv q b)).natAbs
    rw [td,abs_eq (v:=val ([]:List Int)) (p:=p) (z:=(zv p []).tmod (zv q b)) (by decide) (by rw [hzr]; simp [val])]
  .have hpos:0<a.length:=List.length_pos_iff.2 h0
   obtain ⟨l1,l2,l3⟩:=paQ_end (b:=b) ha.1 vb
   have e2:List.take ((a.length:Int)).toNat (List.drop (Int.toNat 0) (paQ a b (-1)))=paQ a b (-1):=by
    rw [show ((a.length:Int)).toNat=(paQ a b (-1)).length by omega,show (Int.toNat 0)=0 from rfl,List.drop_zero,List.take_length]
   have r1:=paR_end a b
   obtain ⟨r2,r3⟩:=paR_len hP (-1)
   have r4:val (paR a b (-1))=val a % val b:=by rw [r1,val_digs]; omega
   refine ⟨cPaL p q a b,300,suArgs p q a b,_,_,_,_,_,cPaL_ok p q hP hpos,rfl,rfl,⟨⟨rfl,rfl,trivial⟩,⟨rfl,rfl,trivial⟩,trivial⟩,pr_l p q a b,rfl,⟨⟨rfl,by omega,by omega⟩,⟨rfl,rfl,rfl⟩,⟨⟨by omega,by omega,by omega⟩,by rw [e2]; exact l2,by rw [e2]; show _<=500000; omega⟩,rfl,lenp,by rw [td]; exact r2,by rw [td]; show _<=500000; omega⟩,rfl,rfl,⟨⟨?_,?_,?_⟩,⟨?_,?_,?_⟩⟩⟩
   .show (!p==q&&decide (val (List.take ((a.length:Int)).toNat (List.drop (Int.toNat 0) (paQ a b (-1))))≠0))=decide ((zv p a).tdiv (zv q b)<0)
    rw [e2,l3]
    exact sgn_eq q0 hzq
   .exact lenp
   .show List.take _ (List.drop _ (digs (val (List.take ((a.length:Int)).toNat (List.drop (Int.toNat 0) (paQ a b (-1))))).toNat))=digs ((zv p a).tdiv (zv q b)).natAbs
    rw [e2,td,l3,abs_eq q0 hzq]
   .show (p&&decide (val (List.take _ (List.drop _ (paR a b (-1))))≠0))=decide ((zv p a).tmod (zv q b)<0)
    rw [td,r4]
    exact sgn_eq r0 hzr
   .exact lenp
   .show List.take _ (List.drop _ (digs (val (List.take _ (List.drop _ (paR a b (-1))))).toNat))=digs ((zv p a).tmod (zv q b)).natAbs
    rw [td,td,r4,abs_eq r0 hzr]
 .cases e
end
end Go.Proofs.YtkbndjnibcjchaaGreatDoor.K
namespace Go.Proofs.YtkbndjnibcjchaaGreatDoor.K
open Go Go.Eng Go.Dg
noncomputable section
def tL4:List (FuncId×NSpec):=(87,mSpec hG0 .i64 [.st [.nu .b,.li],.st [.nu .b,.li]] sumV) :: (88,mSpec hG0 .i64 [.st [.nu .b,.li],.st [.nu .b,.li]] prdV) :: (103,mSpec hG0 .i64 [.st [.nu .b,.li],.st [.nu .b,.li]] ptV) :: tL3
theorem tL4_ok:∀ x∈tL4,NOk Tryz.prog (fun _=>none) hG0 x.1 x.2:=by
 intro x hx
 rcases List.mem_cons.1 hx with rfl|hx
 .exact sum_ok
 rcases List.mem_cons.1 hx with rfl|hx
 .exact prod_ok
 rcases List.mem_cons.1 hx with rfl|hx
 .exact parts_ok
 exact tL3_ok x hx
def cL4:Ctx:=mkN Tryz.prog (fun _=>none) hG0 tL4 [] noExt
theorem cL4_ok:CtxOk cL4:=mkN_ok prog_ok (noExt_ok _) tL4_ok (fun x h=>by cases h)
def cmH (t:Bool):Ctx:=hinting cL4 (hintsT [(10,.bool false t)])
theorem cmH_ok (t:Bool):CtxOk (cmH t):=hinting_ok cL4_ok _
def cmFr:AFr:=⟨83,none⟩
def cmA:Code:=loopOf Tryz.prog 83 0
noncomputable def cmS (p q:Bool) (a b:List Int):St:=stAt cL4 300 83 (suArgs p q a b) (leH a b)
def lgA (id:Nat) (z:Int):List AV:=[.bool true (decide (z<0)),.lslice id (digs z.natAbs).length]
def cmP (q:Bool) (b:List Int):Option (Int×Option Int)->Patch
 | none=>⟨deadT 5 14,[],[]⟩
 | some (y,none)=>⟨deadT 5 14,[(2,.cells [.bool true q,.lslice 1 b.length]),(3,.cells (lgA 5 y))],[.rows .i64 (digs y.natAbs)]⟩
 | some (y,some x)=>⟨deadT 5 14,[(2,.cells (lgA 6 x)),(3,.cells (lgA 5 y))],[.rows .i64 (digs x.natAbs),.rows .i64 (digs y.natAbs)]⟩
def cmX (q:Bool) (b:List Int) (G:Nat):Nat->Patch
 | 0=>⟨deadT 5 14,[(3,.dead)],[]⟩
 | 1=>⟨deadT 5 14,[(2,.cells [.bool true q,.lslice 1 b.length]),(3,.dead)],[.dead]⟩
 | _=>⟨deadT 5 14,[(2,.cells [.any true,.lslice 6 (digs G).length]),(3,.dead)],[.rows .i64 (digs G),.dead]⟩
def cmN (p q:Bool) (a b:List Int):Option (Int×Option Int)->Int×Option Int
 | none=>((zv p a).tmod (zv q b),none)
 | some (y,none)=>((zv q b).tmod (zv (decide (y<0)) (digs y.natAbs)),some y)
 | some (y,some x)=>((zv (decide (x<0)) (digs x.natAbs)).tmod (zv (decide (y<0)) (digs y.natAbs)),some y)
def cmU (k G:Nat) (p q:Bool) (a b:List Int):SumL (Option (Int×Option Int)):=
 {
  S:=cmP q b
  I:=fun y=>match y with
   | none=>(k=0 ↔ zv q b=0)
   | some (y,none)=>zv q b≠0/\y=(zv p a).tmod (zv q b)/\(k=1 ↔ y=0)/\k≠0
   | some (y,some x)=>k=2/\x≠0/\x.natAbs<=(zv q b).natAbs/\y.natAbs<x.natAbs/\Int.gcd x y=G
  μ:=fun y=>match y with
   | none=>(zv q b).natAbs
   | some (y,_)=>y.natAbs
  F:=fun _=>(.exit 0,cmX q b G k)
  next:=fun y=>some (cmN p q a b y)
  ids:=fun y=>match y with
   | none=>[6]
   | some (_,none)=>[7,5]
   | some (_,some _)=>[8,5]
  X:=fun y _=>match y with
   | none=>some (cmX q b G 0,[])
   | some (_,none)=>some (cmX q b G 1,[5])
   | some (_,some x)=>some (cmX q b x.natAbs 2,[5,6]) }
noncomputable def cCm (k G:Nat) (p q:Bool) (a b:List Int):Ctx:=withLoops cL4 [oneLoop 83 (cmS p q a b).hp.clock cmFr cmA (cmS p q a b) (.exit 0) (cmX q b G k)]
end
end Go.Proofs.YtkbndjnibcjchaaGreatDoor.K
namespace Go.Proofs.YtkbndjnibcjchaaGreatDoor.K
open Go Go.Eng Go.Dg
noncomputable section
theorem cm_start (p q:Bool) (a b:List Int):fit (cmS p q a b) (cmS p q a b) (patch (cmS p q a b) (cmP q b none)) ([])=some .tt:=by kernel_rfl
def cm_b0_nd (k G:Nat) (p q:Bool) (a b:List Int):Prop:=(decide ((↑b.length:Int)>(0:Int))=true/\(((↑a.length:Int)=(↑a.length:Int)/\(↑b.length:Int)=(↑b.length:Int))/\okL p a/\okL q b/\b≠[]/\a.length+b.length<=(400000:Nat))/\decide ((zv p a).tmod (zv q b)<(0:Int))=decide ((zv p a).tmod (zv q b)<(0:Int))/\(↑(digs ((zv p a).tmod (zv q b)).natAbs).length:Int)=(↑(digs ((zv p a).tmod (zv q b)).natAbs).length:Int))/\(true=true->(((decide ((zv p a).tmod (zv q b)<(0:Int))=decide ((zv p a).tmod (zv q b)<(0:Int))/\(↑(digs ((zv p a).tmod (zv q b)).natAbs).length:Int)=(↑(digs ((zv p a).tmod (zv q b)).natAbs).length:Int))/\q=q/\(↑b.length:Int)=(↑b.length:Int))/\digs ((zv p a).tmod (zv q b)).natAbs=digs ((zv p a).tmod (zv q b)).natAbs)/\(cmU k G p q a b).I ((cmU k G p q a b).next none)/\(cmU k G p q a b).μ ((cmU k G p q a b).next none)<(cmU k G p q a b).μ none/\(cmU k G p q a b).F ((cmU k G p q a b).next none)=(cmU k G p q a b).F none)
theorem cm_b0 (k G:Nat) (p q:Bool) (a b:List Int):chkR (cmS p q a b) ((cmU k G p q a b).way (none)) ((run (cmH true) 300).code cmFr cmA (patch (cmS p q a b) ((cmU k G p q a b).S none)))=some (.p (cm_b0_nd k G p q a b)):=by kernel_rfl
def cm_e0_nd (k G:Nat) (p q:Bool) (a b:List Int):Prop:=decide ((↑b.length:Int)>(0:Int))=false/\(true=true->(cmU k G p q a b).F none=(Ex.exit (0:Nat),cmX q b G (0:Nat)))
theorem cm_e0 (k G:Nat) (p q:Bool) (a b:List Int):chkR (cmS p q a b) ((cmU k G p q a b).way (none)) ((run (cmH false) 300).code cmFr cmA (patch (cmS p q a b) ((cmU k G p q a b).S none)))=some (.p (cm_e0_nd k G p q a b)):=by kernel_rfl
def cm_b1_nd (k G:Nat) (p q:Bool) (a b:List Int) (y:Int):Prop:=(decide ((↑(digs y.natAbs).length:Int)>(0:Int))=true/\(((↑b.length:Int)=(↑b.length:Int)/\(↑(digs y.natAbs).length:Int)=(↑(digs y.natAbs).length:Int))/\okL q b/\okL (decide (y<(0:Int))) (digs y.natAbs)/\digs y.natAbs≠[]/\b.length+(digs y.natAbs).length<=(400000:Nat))/\decide ((zv q b).tmod (zv (decide (y<(0:Int))) (digs y.natAbs))<(0:Int))=decide ((zv q b).tmod (zv (decide (y<(0:Int))) (digs y.natAbs))<(0:Int))/\(↑(digs ((zv q b).tmod (zv (decide (y<(0:Int))) (digs y.natAbs))).natAbs).length:Int)=(↑(digs ((zv q b).tmod (zv (decide (y<(0:Int))) (digs y.natAbs))).natAbs).length:Int))/\(true=true->(((decide ((zv q b).tmod (zv (decide (y<(0:Int))) (digs y.natAbs))<(0:Int))=decide ((zv q b).tmod (zv (decide (y<(0:Int))) (digs y.natAbs))<(0:Int))/\(↑(digs ((zv q b).tmod (zv (decide (y<(0:Int))) (digs y.natAbs))).natAbs).length:Int)=(↑(digs ((zv q b).tmod (zv (decide (y<(0:Int))) (digs y.natAbs))).natAbs).length:Int))/\decide (y<(0:Int))=decide (y<(0:Int))/\(↑(digs y.natAbs).length:Int)=(↑(digs y.natAbs).length:Int))/\digs y.natAbs=digs y.natAbs/\digs ((zv q b).tmod (zv (decide (y<(0:Int))) (digs y.natAbs))).natAbs=digs ((zv q b).tmod (zv (decide (y<(0:Int))) (digs y.natAbs))).natAbs)/\(cmU k G p q a b).I ((cmU k G p q a b).next (some (y,none)))/\(cmU k G p q a b).μ ((cmU k G p q a b).next (some (y,none)))<(cmU k G p q a b).μ (some (y,none))/\(cmU k G p q a b).F ((cmU k G p q a b).next (some (y,none)))=(cmU k G p q a b).F (some (y,none)))
theorem cm_b1 (k G:Nat) (p q:Bool) (a b:List Int) (y:Int):chkR (cmS p q a b) ((cmU k G p q a b).way ((some (y,none)))) ((run (cmH true) 300).code cmFr cmA (patch (cmS p q a b) ((cmU k G p q a b).S (some (y,none)))))=some (.p (cm_b1_nd k G p q a b y)):=by kernel_rfl
def cm_e1_nd (k G:Nat) (p q:Bool) (a b:List Int) (y:Int):Prop:=decide ((↑(digs y.natAbs).length:Int)>(0:Int))=false/\(true=true->(q=q/\(↑b.length:Int)=(↑b.length:Int))/\(cmU k G p q a b).F (some (y,none))=(Ex.exit (0:Nat),cmX q b G (1:Nat)))
theorem cm_e1 (k G:Nat) (p q:Bool) (a b:List Int) (y:Int):chkR (cmS p q a b) ((cmU k G p q a b).way ((some (y,none)))) ((run (cmH false) 300).code cmFr cmA (patch (cmS p q a b) ((cmU k G p q a b).S (some (y,none)))))=some (.p (cm_e1_nd k G p q a b y)):=by kernel_rfl
def cm_b2_nd (k G:Nat) (p q:Bool) (a b:List Int) (y x:Int):Prop:=(decide ((↑(digs y.natAbs).length:Int)>(0:Int))=true/\(((↑(digs x.natAbs).length:Int)=(↑(digs x.natAbs).length:Int)/\(↑(digs y.natAbs).length:Int)=(↑(digs y.natAbs).length:Int))/\okL (decide (x<(0:Int))) (digs x.natAbs)/\okL (decide (y<(0:Int))) (digs y.natAbs)/\digs y.natAbs≠[]/\(digs x.natAbs).length+(digs y.natAbs).length<=(400000:Nat))/\decide ((zv (decide (x<(0:Int))) (digs x.natAbs)).tmod (zv (decide (y<(0:Int))) (digs y.natAbs))<(0:Int))=decide ((zv (decide (x<(0:Int))) (digs x.natAbs)).tmod (zv (decide (y<(0:Int))) (digs y.natAbs))<(0:Int))/\(↑(digs ((zv (decide (x<(0:Int))) (digs x.natAbs)).tmod (zv (decide (y<(0:Int))) (digs y.natAbs))).natAbs).length:Int)=(↑(digs ((zv (decide (x<(0:Int))) (digs x.natAbs)).tmod (zv (decide (y<(0:Int))) (digs y.natAbs))).natAbs).length:Int))/\(true=true->(((decide ((zv (decide (x<(0:Int))) (digs x.natAbs)).tmod (zv (decide (y<(0:Int))) (digs y.natAbs))<(0:Int))=decide ((zv (decide (x<(0:Int))) (digs x.natAbs)).tmod (zv (decide (y<(0:Int))) (digs y.natAbs))<(0:Int))/\(↑(digs ((zv (decide (x<(0:Int))) (digs x.natAbs)).tmod (zv (decide (y<(0:Int))) (digs y.natAbs))).natAbs).length:Int)=(↑(digs ((zv (decide (x<(0:Int))) (digs x.natAbs)).tmod (zv (decide (y<(0:Int))) (digs y.natAbs))).natAbs).length:Int))/\decide (y<(0:Int))=decide (y<(0:Int))/\(↑(digs y.natAbs).length:Int)=(↑(digs y.natAbs).length:Int))/\digs y.natAbs=digs y.natAbs/\digs ((zv (decide (x<(0:Int))) (digs x.natAbs)).tmod (zv (decide (y<(0:Int))) (digs y.natAbs))).natAbs=digs ((zv (decide (x<(0:Int))) (digs x.natAbs)).tmod (zv (decide (y<(0:Int))) (digs y.natAbs))).natAbs)/\(cmU k G p q a b).I ((cmU k G p q a b).next (some (y,some x)))/\(cmU k G p q a b).μ ((cmU k G p q a b).next (some (y,some x)))<(cmU k G p q a b).μ (some (y,some x))/\(cmU k G p q a b).F ((cmU k G p q a b).next (some (y,some x)))=(cmU k G p q a b).F (some (y,some x)))
theorem cm_b2 (k G:Nat) (p q:Bool) (a b:List Int) (y x:Int):chkR (cmS p q a b) ((cmU k G p q a b).way ((some (y,some x)))) ((run (cmH true) 300).code cmFr cmA (patch (cmS p q a b) ((cmU k G p q a b).S (some (y,some x)))))=some (.p (cm_b2_nd k G p q a b y x)):=by kernel_rfl
def cm_e2_nd (k G:Nat) (p q:Bool) (a b:List Int) (y x:Int):Prop:=decide ((↑(digs y.natAbs).length:Int)>(0:Int))=false/\(true=true->((↑(digs x.natAbs).length:Int)=(↑(digs x.natAbs).length:Int)/\digs x.natAbs=digs x.natAbs)/\(cmU k G p q a b).F (some (y,some x))=(Ex.exit (0:Nat),cmX q b x.natAbs (2:Nat)))
theorem cm_e2 (k G:Nat) (p q:Bool) (a b:List Int) (y x:Int):chkR (cmS p q a b) ((cmU k G p q a b).way ((some (y,some x)))) ((run (cmH false) 300).code cmFr cmA (patch (cmS p q a b) ((cmU k G p q a b).S (some (y,some x)))))=some (.p (cm_e2_nd k G p q a b y x)):=by kernel_rfl
def cm_t0_nd (G:Nat) (p q:Bool) (a b:List Int):Prop:=(At (cmFr) (cmFr) (cmA) (cmA) (cmS p q a b) (cmS p q a b)/\(↑a.length:Int)=(↑a.length:Int)/\Dig a/\Sm a)
def cm_t0_v (G:Nat) (p q:Bool) (a b:List Int):AV:=(AV.agg [AV.bool true (false&&decide (val a≠(0:Int))),AV.islice true 2 (0:Int) (↑(digs (val a).toNat).length:Int)])
def cm_t0_h (G:Nat) (p q:Bool) (a b:List Int):Hp:=⟨[{ wr:=10,body:=ABody.ints IntKind.i64 (digs (val a).toNat) },{ wr:=(0:Nat),body:=ABody.rows IntKind.i64 b },{ wr:=(0:Nat),body:=ABody.rows IntKind.i64 a }],3,11⟩
theorem cm_t0 (G:Nat) (p q:Bool) (a b:List Int):(run (cCm 0 G p q a b) 300).call 83 (suArgs p q a b) (leH a b)=some ⟨.p (cm_t0_nd G p q a b),[⟨.tt,cm_t0_v G p q a b,cm_t0_h G p q a b⟩]⟩:=by kernel_rfl
def cm_t1_nd (G:Nat) (p q:Bool) (a b:List Int):Prop:=(At (cmFr) (cmFr) (cmA) (cmA) (cmS p q a b) (cmS p q a b)/\(↑b.length:Int)=(↑b.length:Int)/\Dig b/\Sm b)
def cm_t1_v (G:Nat) (p q:Bool) (a b:List Int):AV:=(AV.agg [AV.bool true (false&&decide (val b≠(0:Int))),AV.islice true 2 (0:Int) (↑(digs (val b).toNat).length:Int)])
def cm_t1_h (G:Nat) (p q:Bool) (a b:List Int):Hp:=⟨[{ wr:=10,body:=ABody.ints IntKind.i64 (digs (val b).toNat) },{ wr:=(0:Nat),body:=ABody.rows IntKind.i64 b },{ wr:=(0:Nat),body:=ABody.rows IntKind.i64 a }],3,11⟩
theorem cm_t1 (G:Nat) (p q:Bool) (a b:List Int):(run (cCm 1 G p q a b) 300).call 83 (suArgs p q a b) (leH a b)=some ⟨.p (cm_t1_nd G p q a b),[⟨.tt,cm_t1_v G p q a b,cm_t1_h G p q a b⟩]⟩:=by kernel_rfl
def cm_t2_nd (G:Nat) (p q:Bool) (a b:List Int):Prop:=(At (cmFr) (cmFr) (cmA) (cmA) (cmS p q a b) (cmS p q a b)/\(↑(digs G).length:Int)=(↑(digs G).length:Int)/\Dig (digs G)/\Sm (digs G))
def cm_t2_v (G:Nat) (p q:Bool) (a b:List Int):AV:=(AV.agg [AV.bool true (false&&decide (val (digs G)≠(0:Int))),AV.islice true 2 (0:Int) (↑(digs (val (digs G)).toNat).length:Int)])
def cm_t2_h (G:Nat) (p q:Bool) (a b:List Int):Hp:=⟨[{ wr:=10,body:=ABody.ints IntKind.i64 (digs (val (digs G)).toNat) },{ wr:=(0:Nat),body:=ABody.rows IntKind.i64 b },{ wr:=(0:Nat),body:=ABody.rows IntKind.i64 a }],3,11⟩
theorem cm_t2 (G:Nat) (p q:Bool) (a b:List Int):(run (cCm 2 G p q a b) 300).call 83 (suArgs p q a b) (leH a b)=some ⟨.p (cm_t2_nd G p q a b),[⟨.tt,cm_t2_v G p q a b,cm_t2_h G p q a b⟩]⟩:=by kernel_rfl
end
end Go.Proofs.YtkbndjnibcjchaaGreatDoor.K
namespace Go.Proofs.YtkbndjnibcjchaaGreatDoor.K
open Go Go.Eng Go.Dg
noncomputable section
theorem gcd_next (x y:Int):Int.gcd y (x.tmod y)=Int.gcd x y:=by
 unfold Int.gcd
 rw [Int.natAbs_tmod,Nat.gcd_comm x.natAbs,Nat.gcd_rec y.natAbs x.natAbs,Nat.gcd_comm]
theorem tmod_lt (x:Int) {y:Int} (h:y≠0):(x.tmod y).natAbs<y.natAbs:=by
 rw [Int.natAbs_tmod]
 exact Nat.mod_lt _ (by omega)
theorem zv_abs {p:Bool} {a:List Int} (h:okL p a):(zv p a).natAbs=(val a).toNat:=by
 have:=val_nonneg h.1
 cases p <;> simp only [zv,cond_true,cond_false] <;> omega
structure CmD (p q:Bool) (a b:List Int):Prop where
 ha:okL p a
 hb:okL q b
 la:a.length<=200000
 lb:b.length<=200000
theorem CmD.bd {p q:Bool} {a b:List Int} (h:CmD p q a b) {z:Int} (hz:z.natAbs<=(zv q b).natAbs):okL (decide (z<0)) (digs z.natAbs)/\(digs z.natAbs).length<=200000:=by
 have e:=zv_abs h.hb
 have h1:=val_lt h.hb.1
 have h0:=val_nonneg h.hb.1
 have h2:=pw_mono h.lb
 have h3:=pw_mono (show 200000<=500000 by decide)
 exact ⟨okL_digs (by omega),len_digs (by omega)⟩
theorem cm_loop (k:Nat) (p q:Bool) {a b:List Int} (h:CmD p q a b) (h0:k=0 ↔ zv q b=0) (h1:k=1 ↔ zv q b≠0/\(zv p a).tmod (zv q b)=0) (h2:k<=2):
  CodeOk cL4 cmFr (.loop cmA) (cmS p q a b) ⟨.tt,[⟨.tt,.exit 0,patch (cmS p q a b) (cmX q b (Int.gcd (zv p a) (zv q b)) k)⟩]⟩:=by
 refine sumL_oneC (cmU k (Int.gcd (zv p a) (zv q b)) p q a b) (y0:=none) h0 ⟨_,cm_start p q a b,trivial⟩ (by kernel_rfl) (fun y hy=>?_) rfl
 have ha:=h.ha
 have hb:=h.hb
 have la:=h.la
 have lb:=h.lb
 cases y with
 | none=>
  by_cases hz:zv q b=0
  .have hk:k=0:=h0.2 hz
   have hbe:=hb.nil.2 hz
   refine ⟨cmH false,300,cmH_ok false,rfl,rfl,_,cm_e0 k _ p q a b,?_,fun _=>?_⟩
   .rw [hbe]; rfl
   .show (Ex.exit 0,cmX q b _ k)=_
    rw [hk]
  .have hne:b≠[]:=fun e=>hz (hb.nil.1 e)
   have hpos:=List.length_pos_iff.2 hne
   refine ⟨cmH true,300,cmH_ok true,rfl,rfl,_,cm_b0 k _ p q a b,⟨decide_eq_true (by omega),⟨⟨rfl,rfl⟩,ha,hb,hne,by omega⟩,rfl,rfl⟩,fun _=>⟨⟨⟨⟨rfl,rfl⟩,rfl,rfl⟩,rfl⟩,?_,?_,rfl⟩⟩
   .show zv q b≠0/\(zv p a).tmod (zv q b)=(zv p a).tmod (zv q b)/\(k=1 ↔ (zv p a).tmod (zv q b)=0)/\k≠0
    exact ⟨hz,rfl,⟨fun e=>(h1.1 e).2,fun e=>h1.2 ⟨hz,e⟩⟩,fun e=>hz (h0.1 e)⟩
   .exact tmod_lt _ hz
 | some y=>
  obtain ⟨y,x⟩:=y
  cases x with
  | none=>
   obtain ⟨hz,hy1,hy2,hy3⟩:=(show zv q b≠0/\y=(zv p a).tmod (zv q b)/\(k=1 ↔ y=0)/\k≠0 from hy)
   have hlt:y.natAbs<(zv q b).natAbs:=by rw [hy1]; exact tmod_lt _ hz
   obtain ⟨o1,o2⟩:=h.bd (z:=y) (by omega)
   by_cases hy0:y=0
   .have hk:k=1:=hy2.2 hy0
    refine ⟨cmH false,300,cmH_ok false,rfl,rfl,_,cm_e1 k _ p q a b y,?_,fun _=>⟨⟨rfl,rfl⟩,?_⟩⟩
    .rw [hy0,show digs (0:Int).natAbs=[] from digs_zero]; rfl
    .show (Ex.exit 0,cmX q b _ k)=_
     rw [hk]
   .have hk:k=2:=by
     have:k≠1:=fun e=>hy0 (hy2.1 e)
     omega
    have hpos:=digs_len_pos (n:=y.natAbs) (by omega)
    refine ⟨cmH true,300,cmH_ok true,rfl,rfl,_,cm_b1 k _ p q a b y,⟨decide_eq_true (by omega),⟨⟨rfl,rfl⟩,hb,o1,fun e=>by rw [e] at hpos; simp at hpos,by omega⟩,rfl,rfl⟩,fun _=>⟨⟨⟨⟨rfl,rfl⟩,rfl,rfl⟩,rfl,rfl⟩,?_,?_,rfl⟩⟩
    .show k=2/\y≠0/\y.natAbs<=(zv q b).natAbs/\((zv q b).tmod (zv (decide (y<0)) (digs y.natAbs))).natAbs<y.natAbs/\Int.gcd y ((zv q b).tmod (zv (decide (y<0)) (digs y.natAbs)))=Int.gcd (zv p a) (zv q b)
     rw [zv_digs]
     refine ⟨hk,hy0,by omega,tmod_lt _ hy0,?_⟩
     rw [gcd_next,hy1,gcd_next]
    .show ((zv q b).tmod (zv (decide (y<0)) (digs y.natAbs))).natAbs<y.natAbs
     rw [zv_digs]; exact tmod_lt _ hy0
  | some x=>
   obtain ⟨hk,hx0,hxb,hlt,hg⟩:=(show k=2/\x≠0/\x.natAbs<=(zv q b).natAbs/\y.natAbs<x.natAbs/\Int.gcd x y=Int.gcd (zv p a) (zv q b) from hy)
   obtain ⟨o1,o2⟩:=h.bd (z:=y) (by omega)
   obtain ⟨o3,o4⟩:=h.bd (z:=x) (by omega)
   by_cases hy0:y=0
   .refine ⟨cmH false,300,cmH_ok false,rfl,rfl,_,cm_e2 k _ p q a b y x,?_,fun _=>⟨⟨rfl,rfl⟩,?_⟩⟩
    .rw [hy0,show digs (0:Int).natAbs=[] from digs_zero]; rfl
    .show (Ex.exit 0,cmX q b _ k)=_
     rw [hk,<- hg,hy0,Int.gcd_zero_right]
   .have hpos:=digs_len_pos (n:=y.natAbs) (by omega)
    refine ⟨cmH true,300,cmH_ok true,rfl,rfl,_,cm_b2 k _ p q a b y x,⟨decide_eq_true (by omega),⟨⟨rfl,rfl⟩,o3,o1,fun e=>by rw [e] at hpos; simp at hpos,by omega⟩,rfl,rfl⟩,fun _=>⟨⟨⟨⟨rfl,rfl⟩,rfl,rfl⟩,rfl,rfl⟩,?_,?_,rfl⟩⟩
    .show k=2/\y≠0/\y.natAbs<=(zv q b).natAbs/\((zv (decide (x<0)) (digs x.natAbs)).tmod (zv (decide (y<0)) (digs y.natAbs))).natAbs<y.natAbs/\Int.gcd y ((zv (decide (x<0)) (digs x.natAbs)).tmod (zv (decide (y<0)) (digs y.natAbs)))=Int.gcd (zv p a) (zv q b)
     rw [zv_digs,zv_digs]
     exact ⟨hk,hy0,by omega,tmod_lt _ hy0,by rw [gcd_next,hg]⟩
    .show ((zv (decide (x<0)) (digs x.natAbs)).tmod (zv (decide (y<0)) (digs y.natAbs))).natAbs<y.natAbs
     rw [zv_digs,zv_digs]; exact tmod_lt _ hy0
theorem cCm_ok (k:Nat) (p q:Bool) {a b:List Int} (h:CmD p q a b) (h0:k=0 ↔ zv q b=0) (h1:k=1 ↔ zv q b≠0/\(zv p a).tmod (zv q b)=0) (h2:k<=2):CtxOk (cCm k (Int.gcd (zv p a) (zv q b)) p q a b):=
 withLoop_ok cL4_ok (cm_loop k p q h h0 h1 h2) (withNone_ok cL4_ok)
def cmV:List Nu->List (List Int)->Option (Prop×To)
 | [.t p,.t q],[a,b]=>some (CmD p q a b,lgT false ((Int.gcd (zv p a) (zv q b):Nat):Int))
 | _,_=>none
theorem common_ok:NOk Tryz.prog (fun _=>none) hG0 83 (mSpec hG0 .i64 [.st [.nu .b,.li],.st [.nu .b,.li]] cmV):=by
 refine msp_runs (fun xs ys p t e h=>?_) ⟨_,Tryz.func83,rfl⟩
 unfold cmV at e
 split at e
 .rename_i p q a b
  cases e
  have hgn:decide (((Int.gcd (zv p a) (zv q b):Nat):Int)<0)=false:=decide_eq_false (by omega)
  have hga:(((Int.gcd (zv p a) (zv q b):Nat):Int)).natAbs=Int.gcd (zv p a) (zv q b):=by omega
  have ea:=zv_abs h.ha
  have eb:=zv_abs h.hb
  by_cases hz:zv q b=0
  .refine ⟨cCm 0 (Int.gcd (zv p a) (zv q b)) p q a b,300,suArgs p q a b,_,_,_,_,_,cCm_ok 0 p q h ⟨fun _=>hz,fun _=>rfl⟩ ⟨fun h=>(by cases h),fun h=>absurd hz h.1⟩ (by decide),rfl,rfl,⟨⟨rfl,rfl,trivial⟩,⟨rfl,rfl,trivial⟩,trivial⟩,cm_t0 _ p q a b,rfl,⟨⟨rfl,rfl,rfl⟩,rfl,h.ha.1,h.ha.2.2.2⟩,rfl,rfl,⟨?_,?_,?_⟩⟩
   .exact hgn.symm
   .exact lenp
   .show List.take _ (List.drop _ (digs (val a).toNat))=digs (((Int.gcd (zv p a) (zv q b):Nat):Int)).natAbs
    rw [td,hga,hz,Int.gcd_zero_right,ea]
  .by_cases hy:(zv p a).tmod (zv q b)=0
   .refine ⟨cCm 1 (Int.gcd (zv p a) (zv q b)) p q a b,300,suArgs p q a b,_,_,_,_,_,cCm_ok 1 p q h ⟨fun h=>(by cases h),fun h=>absurd h hz⟩ ⟨fun _=>⟨hz,hy⟩,fun _=>rfl⟩ (by decide),rfl,rfl,⟨⟨rfl,rfl,trivial⟩,⟨rfl,rfl,trivial⟩,trivial⟩,cm_t1 _ p q a b,rfl,⟨⟨rfl,rfl,rfl⟩,rfl,h.hb.1,h.hb.2.2.2⟩,rfl,rfl,⟨?_,?_,?_⟩⟩
    .exact hgn.symm
    .exact lenp
    .show List.take _ (List.drop _ (digs (val b).toNat))=digs (((Int.gcd (zv p a) (zv q b):Nat):Int)).natAbs
     rw [td,hga,<- gcd_next,hy,Int.gcd_zero_right,eb]
   .have hG:Sm (digs (Int.gcd (zv p a) (zv q b))):=by
     have h1:=Nat.le_of_dvd (by omega:0<(zv q b).natAbs) (Nat.gcd_dvd_right (zv p a).natAbs (zv q b).natAbs)
     have h2:=val_lt h.hb.1
     have h3:=pw_mono h.lb
     have h0:=val_nonneg h.hb.1
     have h4:Int.gcd (zv p a) (zv q b)=(zv p a).natAbs.gcd (zv q b).natAbs:=rfl
     have:=len_digs (n:=Int.gcd (zv p a) (zv q b)) (k:=200000) (by omega)
     show _<=500000
     omega
    refine ⟨cCm 2 (Int.gcd (zv p a) (zv q b)) p q a b,300,suArgs p q a b,_,_,_,_,_,cCm_ok 2 p q h ⟨fun h=>(by cases h),fun h=>absurd h hz⟩ ⟨fun h=>(by cases h),fun h=>absurd h.2 hy⟩ (by decide),rfl,rfl,⟨⟨rfl,rfl,trivial⟩,⟨rfl,rfl,trivial⟩,trivial⟩,cm_t2 _ p q a b,rfl,⟨⟨rfl,rfl,rfl⟩,rfl,dig_digs _,hG⟩,rfl,rfl,⟨?_,?_,?_⟩⟩
    .exact hgn.symm
    .exact lenp
    .show List.take _ (List.drop _ (digs (val (digs (Int.gcd (zv p a) (zv q b)))).toNat))=digs (((Int.gcd (zv p a) (zv q b):Nat):Int)).natAbs
     rw [td,hga,val_digs]; rfl
 .cases e
end
end Go.Proofs.YtkbndjnibcjchaaGreatDoor.K
namespace Go.Proofs.YtkbndjnibcjchaaGreatDoor.K
open Go Go.Eng Go.Dg
noncomputable section
def tQ1:List (FuncId×NSpec):=(83,mSpec hG0 .i64 [.st [.nu .b,.li],.st [.nu .b,.li]] cmV) :: tL4
theorem tQ1_ok:∀ x∈tQ1,NOk Tryz.prog (fun _=>none) hG0 x.1 x.2:=by
 intro x hx
 rcases List.mem_cons.1 hx with rfl|hx
 .exact common_ok
 exact tL4_ok x hx
def cLo (d:Bool):Ctx:=hinting (mkN Tryz.prog (fun _=>none) hG0 tQ1 [] noExt) (hintsT [(11,.bool false d)])
theorem cLo_ok (d:Bool):CtxOk (cLo d):=hinting_ok (mkN_ok prog_ok (noExt_ok _) tQ1_ok (fun x h=>by cases h)) _
def cRq:Ctx:=hinting (mkN Tryz.prog (fun _=>none) hG0 tQ1 [] noExt) (hintsT [(15,.bool false true),(22,.bool false true),(31,.bool false true)])
theorem cRq_ok:CtxOk cRq:=hinting_ok (mkN_ok prog_ok (noExt_ok _) tQ1_ok (fun x h=>by cases h)) _
def rqArgs (p q:Bool) (n d:List Int):List AV:=[.agg [.bool true p,.lslice 0 n.length,.bool true q,.lslice 1 d.length]]
end
end Go.Proofs.YtkbndjnibcjchaaGreatDoor.K
namespace Go.Proofs.YtkbndjnibcjchaaGreatDoor.K
open Go Go.Eng Go.Dg
noncomputable section
def lo_p_nd (p q:Bool) (n d:List Int):Prop:=(q=false/\(((↑n.length:Int)=(↑n.length:Int)/\(↑d.length:Int)=(↑d.length:Int))/\CmD p q n d)/\(((↑n.length:Int)=(↑n.length:Int)/\(↑(digs (↑((zv p n).gcd (zv q d)):Int).natAbs).length:Int)=(↑(digs (↑((zv p n).gcd (zv q d)):Int).natAbs).length:Int))/\okL p n/\okL (decide ((↑((zv p n).gcd (zv q d)):Int)<(0:Int))) (digs (↑((zv p n).gcd (zv q d)):Int).natAbs)/\digs (↑((zv p n).gcd (zv q d)):Int).natAbs≠[]/\n.length+(digs (↑((zv p n).gcd (zv q d)):Int).natAbs).length<=(400000:Nat))/\((↑d.length:Int)=(↑d.length:Int)/\(↑(digs (↑((zv p n).gcd (zv q d)):Int).natAbs).length:Int)=(↑(digs (↑((zv p n).gcd (zv q d)):Int).natAbs).length:Int))/\okL q d/\okL (decide ((↑((zv p n).gcd (zv q d)):Int)<(0:Int))) (digs (↑((zv p n).gcd (zv q d)):Int).natAbs)/\digs (↑((zv p n).gcd (zv q d)):Int).natAbs≠[]/\d.length+(digs (↑((zv p n).gcd (zv q d)):Int).natAbs).length<=(400000:Nat))
def lo_p_v (p q:Bool) (n d:List Int):AV:=(AV.agg [AV.bool true (decide ((zv p n).tdiv (zv (decide ((↑((zv p n).gcd (zv q d)):Int)<(0:Int))) (digs (↑((zv p n).gcd (zv q d)):Int).natAbs))<(0:Int))),AV.lslice 2 (↑(digs ((zv p n).tdiv (zv (decide ((↑((zv p n).gcd (zv q d)):Int)<(0:Int))) (digs (↑((zv p n).gcd (zv q d)):Int).natAbs))).natAbs).length:Int),AV.bool true (decide ((zv q d).tdiv (zv (decide ((↑((zv p n).gcd (zv q d)):Int)<(0:Int))) (digs (↑((zv p n).gcd (zv q d)):Int).natAbs))<(0:Int))),AV.lslice 3 (↑(digs ((zv q d).tdiv (zv (decide ((↑((zv p n).gcd (zv q d)):Int)<(0:Int))) (digs (↑((zv p n).gcd (zv q d)):Int).natAbs))).natAbs).length:Int)])
def lo_p_h (p q:Bool) (n d:List Int):Hp:=⟨[{ wr:=25,body:=ABody.rows IntKind.i64 (digs ((zv q d).tdiv (zv (decide ((↑((zv p n).gcd (zv q d)):Int)<(0:Int))) (digs (↑((zv p n).gcd (zv q d)):Int).natAbs))).natAbs) },{ wr:=15,body:=ABody.rows IntKind.i64 (digs ((zv p n).tdiv (zv (decide ((↑((zv p n).gcd (zv q d)):Int)<(0:Int))) (digs (↑((zv p n).gcd (zv q d)):Int).natAbs))).natAbs) },{ wr:=(0:Nat),body:=ABody.rows IntKind.i64 d },{ wr:=(0:Nat),body:=ABody.rows IntKind.i64 n }],4,36⟩
theorem lo_p (p q:Bool) (n d:List Int):(run (cLo false) 300).call 86 (suArgs p q n d) (leH n d)=some ⟨.p (lo_p_nd p q n d),[⟨.tt,lo_p_v p q n d,lo_p_h p q n d⟩]⟩:=by kernel_rfl
def lo_n_nd (p q:Bool) (n d:List Int):Prop:=((q=true/\((↑n.length:Int)=(↑n.length:Int)/\okL p n)/\(q=q/\(↑d.length:Int)=(↑d.length:Int))/\(↑d.length:Int)=(↑d.length:Int)/\okL q d)/\(((↑(digs (-zv p n).natAbs).length:Int)=(↑(digs (-zv p n).natAbs).length:Int)/\(↑(digs (-zv q d).natAbs).length:Int)=(↑(digs (-zv q d).natAbs).length:Int))/\CmD (decide (-zv p n<(0:Int))) (decide (-zv q d<(0:Int))) (digs (-zv p n).natAbs) (digs (-zv q d).natAbs))/\(((↑(digs (-zv p n).natAbs).length:Int)=(↑(digs (-zv p n).natAbs).length:Int)/\(↑(digs (↑((zv (decide (-zv p n<(0:Int))) (digs (-zv p n).natAbs)).gcd (zv (decide (-zv q d<(0:Int))) (digs (-zv q d).natAbs))):Int).natAbs).length:Int)=(↑(digs (↑((zv (decide (-zv p n<(0:Int))) (digs (-zv p n).natAbs)).gcd (zv (decide (-zv q d<(0:Int))) (digs (-zv q d).natAbs))):Int).natAbs).length:Int))/\okL (decide (-zv p n<(0:Int))) (digs (-zv p n).natAbs)/\okL (decide ((↑((zv (decide (-zv p n<(0:Int))) (digs (-zv p n).natAbs)).gcd (zv (decide (-zv q d<(0:Int))) (digs (-zv q d).natAbs))):Int)<(0:Int))) (digs (↑((zv (decide (-zv p n<(0:Int))) (digs (-zv p n).natAbs)).gcd (zv (decide (-zv q d<(0:Int))) (digs (-zv q d).natAbs))):Int).natAbs)/\digs (↑((zv (decide (-zv p n<(0:Int))) (digs (-zv p n).natAbs)).gcd (zv (decide (-zv q d<(0:Int))) (digs (-zv q d).natAbs))):Int).natAbs≠[]/\(digs (-zv p n).natAbs).length+(digs (↑((zv (decide (-zv p n<(0:Int))) (digs (-zv p n).natAbs)).gcd (zv (decide (-zv q d<(0:Int))) (digs (-zv q d).natAbs))):Int).natAbs).length<=(400000:Nat))/\((↑(digs (-zv q d).natAbs).length:Int)=(↑(digs (-zv q d).natAbs).length:Int)/\(↑(digs (↑((zv (decide (-zv p n<(0:Int))) (digs (-zv p n).natAbs)).gcd (zv (decide (-zv q d<(0:Int))) (digs (-zv q d).natAbs))):Int).natAbs).length:Int)=(↑(digs (↑((zv (decide (-zv p n<(0:Int))) (digs (-zv p n).natAbs)).gcd (zv (decide (-zv q d<(0:Int))) (digs (-zv q d).natAbs))):Int).natAbs).length:Int))/\okL (decide (-zv q d<(0:Int))) (digs (-zv q d).natAbs)/\okL (decide ((↑((zv (decide (-zv p n<(0:Int))) (digs (-zv p n).natAbs)).gcd (zv (decide (-zv q d<(0:Int))) (digs (-zv q d).natAbs))):Int)<(0:Int))) (digs (↑((zv (decide (-zv p n<(0:Int))) (digs (-zv p n).natAbs)).gcd (zv (decide (-zv q d<(0:Int))) (digs (-zv q d).natAbs))):Int).natAbs)/\digs (↑((zv (decide (-zv p n<(0:Int))) (digs (-zv p n).natAbs)).gcd (zv (decide (-zv q d<(0:Int))) (digs (-zv q d).natAbs))):Int).natAbs≠[]/\(digs (-zv q d).natAbs).length+(digs (↑((zv (decide (-zv p n<(0:Int))) (digs (-zv p n).natAbs)).gcd (zv (decide (-zv q d<(0:Int))) (digs (-zv q d).natAbs))):Int).natAbs).length<=(400000:Nat))
def lo_n_v (p q:Bool) (n d:List Int):AV:=(AV.agg [AV.bool true (decide ((zv (decide (-zv p n<(0:Int))) (digs (-zv p n).natAbs)).tdiv (zv (decide ((↑((zv (decide (-zv p n<(0:Int))) (digs (-zv p n).natAbs)).gcd (zv (decide (-zv q d<(0:Int))) (digs (-zv q d).natAbs))):Int)<(0:Int))) (digs (↑((zv (decide (-zv p n<(0:Int))) (digs (-zv p n).natAbs)).gcd (zv (decide (-zv q d<(0:Int))) (digs (-zv q d).natAbs))):Int).natAbs))<(0:Int))),AV.lslice 2 (↑(digs ((zv (decide (-zv p n<(0:Int))) (digs (-zv p n).natAbs)).tdiv (zv (decide ((↑((zv (decide (-zv p n<(0:Int))) (digs (-zv p n).natAbs)).gcd (zv (decide (-zv q d<(0:Int))) (digs (-zv q d).natAbs))):Int)<(0:Int))) (digs (↑((zv (decide (-zv p n<(0:Int))) (digs (-zv p n).natAbs)).gcd (zv (decide (-zv q d<(0:Int))) (digs (-zv q d).natAbs))):Int).natAbs))).natAbs).length:Int),AV.bool true (decide ((zv (decide (-zv q d<(0:Int))) (digs (-zv q d).natAbs)).tdiv (zv (decide ((↑((zv (decide (-zv p n<(0:Int))) (digs (-zv p n).natAbs)).gcd (zv (decide (-zv q d<(0:Int))) (digs (-zv q d).natAbs))):Int)<(0:Int))) (digs (↑((zv (decide (-zv p n<(0:Int))) (digs (-zv p n).natAbs)).gcd (zv (decide (-zv q d<(0:Int))) (digs (-zv q d).natAbs))):Int).natAbs))<(0:Int))),AV.lslice 3 (↑(digs ((zv (decide (-zv q d<(0:Int))) (digs (-zv q d).natAbs)).tdiv (zv (decide ((↑((zv (decide (-zv p n<(0:Int))) (digs (-zv p n).natAbs)).gcd (zv (decide (-zv q d<(0:Int))) (digs (-zv q d).natAbs))):Int)<(0:Int))) (digs (↑((zv (decide (-zv p n<(0:Int))) (digs (-zv p n).natAbs)).gcd (zv (decide (-zv q d<(0:Int))) (digs (-zv q d).natAbs))):Int).natAbs))).natAbs).length:Int)])
def lo_n_h (p q:Bool) (n d:List Int):Hp:=⟨[{ wr:=31,body:=ABody.rows IntKind.i64 (digs ((zv (decide (-zv q d<(0:Int))) (digs (-zv q d).natAbs)).tdiv (zv (decide ((↑((zv (decide (-zv p n<(0:Int))) (digs (-zv p n).natAbs)).gcd (zv (decide (-zv q d<(0:Int))) (digs (-zv q d).natAbs))):Int)<(0:Int))) (digs (↑((zv (decide (-zv p n<(0:Int))) (digs (-zv p n).natAbs)).gcd (zv (decide (-zv q d<(0:Int))) (digs (-zv q d).natAbs))):Int).natAbs))).natAbs) },{ wr:=21,body:=ABody.rows IntKind.i64 (digs ((zv (decide (-zv p n<(0:Int))) (digs (-zv p n).natAbs)).tdiv (zv (decide ((↑((zv (decide (-zv p n<(0:Int))) (digs (-zv p n).natAbs)).gcd (zv (decide (-zv q d<(0:Int))) (digs (-zv q d).natAbs))):Int)<(0:Int))) (digs (↑((zv (decide (-zv p n<(0:Int))) (digs (-zv p n).natAbs)).gcd (zv (decide (-zv q d<(0:Int))) (digs (-zv q d).natAbs))):Int).natAbs))).natAbs) },{ wr:=(0:Nat),body:=ABody.rows IntKind.i64 d },{ wr:=(0:Nat),body:=ABody.rows IntKind.i64 n }],4,42⟩
theorem lo_n (p q:Bool) (n d:List Int):(run (cLo true) 300).call 86 (suArgs p q n d) (leH n d)=some ⟨.p (lo_n_nd p q n d),[⟨.tt,lo_n_v p q n d,lo_n_h p q n d⟩]⟩:=by kernel_rfl
def rq_t_nd (p q:Bool) (n d:List Int):Prop:=(((↑n.length:Int)=(↑n.length:Int)/\okL p n/\n.length<=(600:Nat))/\((↑d.length:Int)=(↑d.length:Int)/\okL q d/\d.length<=(600:Nat))/\(!q)=true/\decide ((↑d.length:Int)>(0:Int))=true/\(((↑n.length:Int)=(↑n.length:Int)/\(↑d.length:Int)=(↑d.length:Int))/\CmD p q n d)/\Int.natAbs (1:Int)<=(9223372036854775808:Nat)/\(((↑(digs (↑((zv p n).gcd (zv q d)):Int).natAbs).length:Int)=(↑(digs (↑((zv p n).gcd (zv q d)):Int).natAbs).length:Int)/\(↑(digs (Int.natAbs (1:Int))).length:Int)=(↑(digs (Int.natAbs (1:Int))).length:Int))/\Sm (digs (↑((zv p n).gcd (zv q d)):Int).natAbs)/\Sm (digs (Int.natAbs (1:Int))))/\decide (decide ((↑((zv p n).gcd (zv q d)):Int)<(0:Int))=decide ((1:Int)<(0:Int))/\digs (↑((zv p n).gcd (zv q d)):Int).natAbs=digs (Int.natAbs (1:Int)))=true)
def rq_t_v (p q:Bool) (n d:List Int):AV:=(AV.bool false true)
def rq_t_h (p q:Bool) (n d:List Int):Hp:=⟨[{ wr:=(0:Nat),body:=ABody.rows IntKind.i64 d },{ wr:=(0:Nat),body:=ABody.rows IntKind.i64 n }],2,35⟩
theorem rq_t (p q:Bool) (n d:List Int):(run cRq 300).call 54 (rqArgs p q n d) (leH n d)=some ⟨.p (rq_t_nd p q n d),[⟨.tt,rq_t_v p q n d,rq_t_h p q n d⟩]⟩:=by kernel_rfl
end
end Go.Proofs.YtkbndjnibcjchaaGreatDoor.K
