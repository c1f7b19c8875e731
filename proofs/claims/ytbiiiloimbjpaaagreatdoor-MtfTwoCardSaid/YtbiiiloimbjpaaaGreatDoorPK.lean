/- What is proved: MtfTwo returns true, whatever the input (part 11). No conditions beyond those of the row. -/
import Derived.Test.YtbiiiloimbjpaaaGreatDoorPJ
open Go.IntKind (i64 u64)
set_option linter.unusedVariables false
set_option linter.unusedSimpArgs false
set_option linter.unusedSectionVars false
namespace Go.Dg
open Go Go.Eng
def fH:List Int:=[294967296,4]
def oX6 (x:Nat->Int):List Int:=[x 0,x 1,x 2,x 3,x 4,x 5]
def oX7 (x:Nat->Int):List Int:=[x 0,x 1,x 2,x 3,x 4,x 5,x 6]
def ovT (a b:Int):Int:=i64.wrap (i64.wrap (a*1000000000)+b)
def JH (a b:Int):Int:=i64.wrap ((ovT a b).tdiv 858993459)
def WI (a b:Int):Int:=(ovT a b).tmod 858993459
def JI (a b c:Int):Bool:=bif decide (JH a b>=1000000000) then true else decide (i64.wrap (JH a b*200000000)>i64.wrap (i64.wrap (WI a b*1000000000)+c))
def WJ (a b:Int):Bool:=decide (i64.wrap (WI a b+858993459)>=1000000000)
def agc (a b c:Int):Bool:=bif decide (i64.wrap (JH a b - 1)>=1000000000) then true else decide (i64.wrap (i64.wrap (JH a b - 1)*200000000)>i64.wrap (i64.wrap (i64.wrap (WI a b+858993459)*1000000000)+c))
def ovE (a b c:Int):Int:=bif JI a b c&&WJ a b||!JI a b c then bif JI a b c&&WJ a b then i64.wrap (JH a b - 1) else JH a b else bif agc a b c then i64.wrap (i64.wrap (JH a b - 1) - 1) else i64.wrap (JH a b - 1)
def lf1 (n:Int):Int:=bif decide (n<0) then i64.wrap (n+1000000000) else n
def lf2 (n:Int):Int:=bif decide (lf1 n<0) then i64.wrap (lf1 n+1000000000) else lf1 n
def lb1 (n b:Int):Int:=bif decide (n<0) then i64.wrap (b+1) else b
def lb2 (n b:Int):Int:=bif decide (lf1 n<0) then i64.wrap (lb1 n b+1) else lb1 n b
def akz (a b c e p3 p4 h f p7 p8 i d g A B j len:Int) (l:List Int):Prop:=
 (A=a/\B=b)/\((JI a b c&&!WJ a b)=true->agc a b c=true->decide (i64.wrap (i64.wrap (WI a b+858993459)+858993459)>=1000000000)=true) /\
 (ovE a b c=e/\(((i64.wrap (200000000*e)).tmod 1000000000=p3/\i64.wrap ((i64.wrap (200000000*e)).tdiv 1000000000)=p4/\lf2 (i64.wrap (i64.wrap (c - p3) - 0))=h) /\
  (B=b/\(i64.wrap (858993459*e)).tmod 1000000000=p7/\lb2 (i64.wrap (i64.wrap (c - p3) - 0)) p4=f)/\i64.wrap ((i64.wrap (858993459*e)).tdiv 1000000000)=p8/\lf2 (i64.wrap (i64.wrap (b - p7) - f))=i) /\
  (A=a/\lb2 (i64.wrap (i64.wrap (b - p7) - f)) p8=d)/\decide (i64.wrap (a - d)<0)=false) /\
 ovE a b c=g/\(0<=j/\j<len)/\(0+j).toNat<l.length
theorem akA {r c A B j len:Int} {l:List Int} (o:0<=r) (h1:r<858993459200000000) (c0:0<=c) (c1:c<1000000000) (K:A=r / 1000000000) (L:B=r % 1000000000) (j0:0<=j) (j1:j<len) (hl:j.toNat<l.length):
  akz (r / 1000000000) (r % 1000000000) c ((r*1000000000+c) / 858993459200000000) (200000000*((r*1000000000+c) / 858993459200000000) % 1000000000) (200000000*((r*1000000000+c) / 858993459200000000) / 1000000000)
   ((r*1000000000+c) % 858993459200000000 % 1000000000) (if c - 200000000*((r*1000000000+c) / 858993459200000000) % 1000000000<0 then 200000000*((r*1000000000+c) / 858993459200000000) / 1000000000+1 else 200000000*((r*1000000000+c) / 858993459200000000) / 1000000000)
   (858993459*((r*1000000000+c) / 858993459200000000) % 1000000000) (858993459*((r*1000000000+c) / 858993459200000000) / 1000000000) ((r*1000000000+c) % 858993459200000000 / 1000000000) (r / 1000000000) ((r*1000000000+c) / 858993459200000000) A B j len l:=by
 generalize t:(r*1000000000+c) / 858993459200000000=e;obtain ⟨D0,D1,R0,R1,k1,k2⟩:=aky o h1 c0 c1 rfl rfl;have e0:0<=e/\e<1000000000:=by omega
 have M:ovT (r / 1000000000) (r % 1000000000)=r:=by unfold ovT;rw [iw (n:=r / 1000000000*1000000000) (by omega) (by omega),iw (by omega) (by omega)];omega
 have hD:JH (r / 1000000000) (r % 1000000000)=r / 858993459:=by unfold JH;rw [M,bV o,iw (by omega) (by omega)]
 have w:WI (r / 1000000000) (r % 1000000000)=r % 858993459:=by unfold WI;rw [M,cO o]
 have y:JI (r / 1000000000) (r % 1000000000) c=decide (r / 858993459>=1000000000\/r / 858993459*200000000>r % 858993459*1000000000+c):=by
  unfold JI;rw [hD,w,iw (n:=r / 858993459*200000000) (by omega) (by omega),iw (n:=r % 858993459*1000000000) (by omega) (by omega),iw (n:=r % 858993459*1000000000+c) (by omega) (by omega)];by_cases h:r / 858993459>=1000000000
  .rw [aI h];exact (aI (p:=r / 858993459>=1000000000\/r / 858993459*200000000>r % 858993459*1000000000+c) (Or.inl h)).symm
  .rw [aG h];show decide _=decide _;exact DL.2 ⟨fun x=>.inr x,fun x=>x.resolve_left h⟩
 have hX:WJ (r / 1000000000) (r % 1000000000)=decide (r % 858993459+858993459>=1000000000):=by unfold WJ;rw [w,iw (by omega) (by omega)]
 have g:JI (r / 1000000000) (r % 1000000000) c=true->agc (r / 1000000000) (r % 1000000000) c=false:=fun h=>by
  rw [y] at h;obtain ⟨_,q1,q2⟩:=k1 (bK h);unfold agc;rw [hD,w,iw (n:=r / 858993459 - 1) (by omega) (by omega),iw (n:=(r / 858993459 - 1)*200000000) (by omega) (by omega),iw (n:=r % 858993459+858993459) (by omega) (by omega),iw (n:=(r % 858993459+858993459)*1000000000) (by omega) (by omega),iw (n:=(r % 858993459+858993459)*1000000000+c) (by omega) (by omega),aG q1];exact aG q2
 have N:ovE (r / 1000000000) (r % 1000000000) c=e:=by
  unfold ovE
  cases d:JI (r / 1000000000) (r % 1000000000) c with
  | true=>
   rw [g d,hD];rw [y] at d;have:=(k1 (bK d)).1;rw [iw (by omega) (by omega)];cases WJ (r / 1000000000) (r % 1000000000) <;> exact this.trans t
  | false=>
   rw [hD];rw [y] at d;exact (k2 (dJ d)).trans t
 obtain ⟨l1,l2,l3,l4⟩:=agb o h1 c0 c1 t.symm (p3:=200000000*e % 1000000000) (p4:=200000000*e / 1000000000) rfl rfl (n:=c - 200000000*e % 1000000000) rfl rfl rfl (p7:=858993459*e % 1000000000) (p8:=858993459*e / 1000000000) rfl rfl rfl rfl rfl rfl rfl;generalize D:200000000*e % 1000000000=f at *
 generalize E:200000000*e / 1000000000=q at *
 generalize F:858993459*e % 1000000000=i at *
 generalize H:858993459*e / 1000000000=O at *
 have P:∀ n:Int,-10000000000<=n->n<=10000000000->lf1 n=if n<0 then n+1000000000 else n:=fun n a b=>by
  unfold lf1;by_cases h:n<0
  .rw [aI h,aC h];exact iw (by omega) (by omega)
  .rw [aG h,aB h];rfl
 have Q:∀ n:Int,-10000000000<=n->n<=10000000000->lf2 n=if (if n<0 then n+1000000000 else n)<0 then (if n<0 then n+1000000000 else n)+1000000000 else (if n<0 then n+1000000000 else n):=fun n a b=>by
  unfold lf2;rw [P n a b];generalize I:(if n<0 then n+1000000000 else n)=z;have J:-10000000000<=z/\z<=11000000000:=by split at I <;> omega
  by_cases h:z<0
  .rw [aI h,aC h];exact iw (by omega) (by omega)
  .rw [aG h,aB h];rfl
 have g1:∀ n b:Int,0<=b->b<=10000000000->lb1 n b=if n<0 then b+1 else b:=fun n b u v=>by
  unfold lb1;by_cases h:n<0
  .rw [aI h,aC h];exact iw (by omega) (by omega)
  .rw [aG h,aB h];rfl
 have W:∀ n b:Int,-10000000000<=n->n<=10000000000->0<=b->b<=10000000000->lb2 n b=if (if n<0 then n+1000000000 else n)<0 then (if n<0 then b+1 else b)+1 else (if n<0 then b+1 else b):=fun n b a a' u v=>by
  unfold lb2;rw [P n a a',g1 n b u v];generalize I:(if n<0 then b+1 else b)=z;have J:0<=z/\z<=10000000001:=by split at I <;> omega
  by_cases h:(if n<0 then n+1000000000 else n)<0
  .rw [aI h,aC h];exact iw (by omega) (by omega)
  .rw [aG h,aB h];rfl
 have b3:0<=f/\f<1000000000:=by omega
 have b4:0<=q/\q<=200000000:=by omega
 have b7:0<=i/\i<1000000000:=by omega
 have b8:0<=O/\O<=858993459:=by omega
 have X:i64.wrap (i64.wrap (c - f) - 0)=c - f:=by rw [iw (n:=c - f) (by omega) (by omega),Int.sub_zero,iw (by omega) (by omega)]
 generalize m:(if c - f<0 then q+1 else q)=s at *
 have aa:0<=s/\s<=200000001:=by split at m <;> omega
 have Y:i64.wrap (i64.wrap (r % 1000000000 - i) - s)=r % 1000000000 - i - s:=by rw [iw (n:=r % 1000000000 - i) (by omega) (by omega),iw (by omega) (by omega)]
 have w2:i64.wrap (200000000*e)=200000000*e:=iw (by omega) (by omega);have w8:i64.wrap (858993459*e)=858993459*e:=iw (by omega) (by omega);refine ⟨⟨K,L⟩,fun h k=>?_,⟨N,⟨⟨?_,?_,?_⟩,⟨L,?_,?_⟩,?_,?_⟩,⟨K,?_⟩,?_⟩,N,⟨j0,j1⟩,by rw [oW];exact hl⟩
 .have d:JI (r / 1000000000) (r % 1000000000) c=true:=by
   revert h;cases JI (r / 1000000000) (r % 1000000000) c <;> intro h
   .cases h
   .rfl
  rw [g d] at k;cases k
 .rw [w2,cO (by omega)];exact D
 .rw [w2,bV (by omega),iw (by omega) (by omega)];exact E
 .rw [X,Q _ (by omega) (by omega),aB l1];exact l2
 .rw [w8,cO (by omega)];exact F
 .rw [X,W _ _ (by omega) (by omega) (by omega) (by omega),aB l1];exact m
 .rw [w8,bV (by omega),iw (by omega) (by omega)];exact H
 .rw [Y,Q _ (by omega) (by omega)];exact l3
 .rw [Y,W _ _ (by omega) (by omega) (by omega) (by omega)];exact l4.symm
 .rw [Int.sub_self];rfl
def Bt (l:List Int) (i dg a c:Int):Prop:=((0<=i/\i<(l.length:Int))/\i.toNat<l.length)/\(i64.wrap (i64.wrap (l.getD i.toNat 0*200000000)+c)).tmod 1000000000=dg/\i64.wrap ((i64.wrap (i64.wrap (l.getD i.toNat 0*200000000)+c)).tdiv 1000000000)=a
theorem akB {l:List Int} {i z c dg a:Int} (d:0<=i) (h1:i<(l.length:Int)) (b:l.getD i.toNat 0=z) (g:0<=z) (h:z<1000000000) (c0:0<=c) (c1:c<200000000) (hd:(z*200000000+c) % 1000000000=dg) (f:(z*200000000+c) / 1000000000=a):Bt l i dg a c:=by
 refine ⟨⟨⟨d,h1⟩,by omega⟩,?_,?_⟩
 .rw [b,iw (n:=z*200000000) (by omega) (by omega),iw (by omega) (by omega),cO (by omega)];exact hd
 .rw [b,iw (n:=z*200000000) (by omega) (by omega),iw (n:=z*200000000+c) (by omega) (by omega),bV (by omega),iw (by omega) (by omega)];exact f
def oLX (l:List Int):Int:=i64.wrap (i64.wrap ((l.length:Int) - 2)+1)
def oQl (l:List Int) (m:Nat) (w:Nat->Nat->Int):Nat->List Int
 | 0=>List.replicate (oLX l).toNat 0
 | k+1=>(oQl l m w k).set (0+((m - k:Nat):Int)).toNat (w k 16)
def xk (l:List Int) (n:Int) (a rd:Prop) (t:Prop):Prop:=
 (fH.length:Int)=2/\((((l.length:Int)=(l.length:Int)/\(fH.length:Int)=(fH.length:Int))/\Sm l/\Sm fH)/\decide (EU l fH<0)=false) /\
 (((0:Int)<=1/\(1:Int)<(fH.length:Int))/\(1:Int).toNat<fH.length/\fH.getD (1:Int).toNat 0=4) /\
 (((l.length:Int)=n/\((l.length:Int)=n/\a)/\(l.length:Int)=n)/\(fH.length:Int)=2/\((fH.length:Int)=2/\(((0:Int)<=0/\(0:Int)<(fH.length:Int))/\(0:Int).toNat<fH.length/\fH.getD (0:Int).toNat 0=294967296)/\((0:Int)<=1/\(1:Int)<(fH.length:Int))/\(1:Int).toNat<fH.length/\fH.getD (1:Int).toNat 0=4)/\(fH.length:Int)=2) /\
 (oLX l=oLX l/\0<=oLX l/\oLX l<=1048576)/\(oLX l=n - 1/\rd)/\t
def ovR (w:Nat->Nat->Int) (l:List Int) (m k:Nat) (A B:Int):Prop:=
 akz (w k 0) (w k 1) (w 20 (m - k)) (w k 2) (w k 3) (w k 4) (w k 5) (w k 6) (w k 7) (w k 8) (w k 9) (w k 10) (w k 16) A B ((m - k:Nat):Int) (oLX l) (oQl l m w k)
def aa1 (w:Nat->Nat->Int) (l:List Int):Prop:=Bt l 0 (w 20 0) (w 21 0) 0/\Bt l 1 (w 20 1) (w 21 1) (w 21 0)/\Bt l 2 (w 20 2) (w 21 2) (w 21 1)/\Bt l 3 (w 20 3) (w 21 3) (w 21 2)/\Bt l 4 (w 20 4) (w 21 4) (w 21 3)/\Bt l 5 (w 20 5) (w 21 5) (w 21 4)
def Qv (w:Nat->Nat->Int) (l:List Int):Prop:=Bt l 0 (w 20 0) (w 21 0) 0/\Bt l 1 (w 20 1) (w 21 1) (w 21 0)/\Bt l 2 (w 20 2) (w 21 2) (w 21 1)/\Bt l 3 (w 20 3) (w 21 3) (w 21 2)/\Bt l 4 (w 20 4) (w 21 4) (w 21 3)/\Bt l 5 (w 20 5) (w 21 5) (w 21 4)/\Bt l 6 (w 20 6) (w 21 6) (w 21 5)
def aa2 (w:Nat->Nat->Int) (l:List Int):Prop:=ovR w l 4 0 (w 21 5) (w 20 5)/\ovR w l 4 1 (w 0 9) (w 0 5)/\ovR w l 4 2 (w 1 9) (w 1 5)/\ovR w l 4 3 (w 2 9) (w 2 5)/\ovR w l 4 4 (w 3 9) (w 3 5)
def Qw (w:Nat->Nat->Int) (l:List Int):Prop:=ovR w l 5 0 (w 21 6) (w 20 6)/\ovR w l 5 1 (w 0 9) (w 0 5)/\ovR w l 5 2 (w 1 9) (w 1 5)/\ovR w l 5 3 (w 2 9) (w 2 5)/\ovR w l 5 4 (w 3 9) (w 3 5)/\ovR w l 5 5 (w 4 9) (w 4 5)
def tU2 (a b:Int):Prop:=(((2:Nat):Int)=2/\((2:Nat):Int)=2/\(a==0)=false)/\Dig [b,a]/\[b,a].length<=500000/\(1:Int)<=200000000/\(200000000:Int)<=1000000000
def tU1 (a b:Int):Prop:=(((((2:Nat):Int)=2/\((2:Nat):Int)=2/\(a==0)=true)/\((2:Nat):Int)=2)/\((1:Nat):Int)=1/\((1:Nat):Int)=1/\(b==0)=false)/\Dig [b]/\[b].length<=500000/\(1:Int)<=200000000/\(200000000:Int)<=1000000000
def tU0 (a b:Int):Prop:=(((((2:Nat):Int)=2/\((2:Nat):Int)=2/\(a==0)=true)/\((2:Nat):Int)=2)/\((((1:Nat):Int)=1/\((1:Nat):Int)=1/\(b==0)=true)/\((1:Nat):Int)=1)/\((0:Nat):Int)=0)/\Dig []/\([]:List Int).length<=500000/\(1:Int)<=200000000/\(200000000:Int)<=1000000000
def tQ0 (l:List Int) (m:Int) (q:List Int):Prop:=oLX l=m+1/\oLX l=m+1/\(0<=m/\m<oLX l)/\(0+m).toNat<q.length/\(q.getD (0+m).toNat 0==0)=false
def tQ1 (l:List Int) (q:List Int):Prop:=((oLX l=6/\oLX l=6/\((0:Int)<=5/\5<oLX l)/\(0+5:Int).toNat<q.length/\(q.getD (0+5:Int).toNat 0==0)=true)/\oLX l=6/\(0:Int)<=0/\(0:Int)<=5/\5<=oLX l)/\(5 - 0:Int)=5/\(5 - 0:Int)=5/\((0:Int)<=4/\(4:Int)<5 - 0)/\(0+0+4:Int).toNat<q.length/\(q.getD (0+0+4:Int).toNat 0==0)=false
end Go.Dg
namespace Go.Proofs.YtbiiiloimbjpaaaGreatDoor.K
open Go Go.Eng Go.Dg
noncomputable section
def JJ:List (Nat×List (Nat×Nat×Nat×AV))->Nat->Nat->Option AV
 | [],_,_=>none
 | (z,h) :: l,c,t=>match Nat.ble c z with
  | true=>aoI h c t
  | false=>JJ l c t
def hTL:List (Nat×Nat×AV)->Nat->Option (Nat×AV)
 | [],_=>none
 | (a,t,v) :: l,c=>match Nat.beq a c with
  | true=>some (t,v)
  | false=>hTL l c
def pI (n:Int):AV:=.int false .i64 n
def wI (w:Nat->Nat->Int) (a b:Nat):AV:=.int true .i64 (w a b)
def bT:AV:=.bool false true
def bF:AV:=.bool false false
def cVo (h:Nat->Nat->Option AV) (g:Nat->Option (Nat×AV)):Ctx:={ cZ with hint:=h,hintT:=g }
theorem akC (h:Nat->Nat->Option AV) (g:Nat->Option (Nat×AV)):CtxOk (cVo h g):=⟨vI.prog,vI.con,vI.ext,fun fr a s q e=>vI.loop fr a s q e,vI.two⟩
def cWo (h:Nat->Nat->Option AV) (g:Nat->Option (Nat×AV)):Ctx:=tK (tK (tK (cVo h g) 123 3) 123 8) 138 8
theorem wW (h:Nat->Nat->Option AV) (g:Nat->Option (Nat×AV)):CtxOk (cWo h g):=pX (pX (pX (akC h g) _ _) _ _) _ _
def oGr (w:Nat->Nat->Int) (b k:Nat):Nat×List (Nat×Nat×Nat×AV):=(b+144,[(b,b,128,bT),(b+1,b+18,137,wI w k 2),(b+13,b+68,26,wI w k 3),(b+13,b+68,33,wI w k 4),(b+13,b+68,48,wI w k 5),(b+69,b+118,28,wI w k 6),(b+69,b+118,22,wI w k 1),(b+69,b+118,26,wI w k 7),(b+69,b+118,33,wI w k 8),(b+69,b+118,48,wI w k 9),(b+119,b+138,56,wI w k 0),(b+119,b+138,57,wI w k 10),(b+125,b+135,64,bF),(b+125,b+144,152,wI w k 16)])
def oTr (b:Nat) (n:Int) (r:AV):List (Nat×Nat×Nat×AV):=[(b,b+18,4,pI n),(b,b+18,9,pI n),(b,b+18,17,pI n),(b,b+18,14,r)]
def oR6 (w:Nat->Nat->Int):List (Nat×List (Nat×Nat×Nat×AV)):=[(283,[(0,10,17,pI 2),(11,31,18,bF),(20,31,43,pI 4),(32,194,11,pI 6),(195,264,11,pI 2),(32,194,15,pI 6),(195,264,15,pI 2),(32,194,36,pI 6),(195,264,36,pI 2),(42,65,29,wI w 20 0),(42,65,31,wI w 21 0),(66,89,29,wI w 20 1),(66,89,31,wI w 21 1),(90,113,29,wI w 20 2),(90,113,31,wI w 21 2),(114,137,29,wI w 20 3),(114,137,31,wI w 21 3),(138,161,29,wI w 20 4),(138,161,31,wI w 21 4),(162,185,29,wI w 20 5),(162,185,31,wI w 21 5),(206,229,20,pI 294967296),(230,253,20,pI 4),(265,283,61,pI 5)]),oGr w 391 0,oGr w 643 1,oGr w 895 2,oGr w 1147 3,oGr w 1399 4]
def oT6 (w:Nat->Nat->Int):List (Nat×Nat×AV):=[(290,72,wI w 0 0),(298,80,wI w 0 1),(542,72,wI w 1 0),(550,80,wI w 1 1),(794,72,wI w 2 0),(802,80,wI w 2 1),(1046,72,wI w 3 0),(1054,80,wI w 3 1),(1298,72,wI w 4 0),(1306,80,wI w 4 1)]
def air (w:Nat->Nat->Int):Ctx:=cWo (JJ (oR6 w++[(1607,oTr 1550 2 bT++oTr 1569 1 bT++[(1588,1606,4,pI 0),(1588,1606,9,pI 0),(1588,1606,17,pI 0)]),(1813,oTr 1613 5 bF)])) (hTL (oT6 w))
def ais (w:Nat->Nat->Int):Ctx:=cWo (JJ (oR6 w++[(1588,oTr 1550 2 bT++oTr 1569 1 bF),(1794,oTr 1594 5 bF)])) (hTL (oT6 w))
def ait (w:Nat->Nat->Int):Ctx:=cWo (JJ (oR6 w++[(1569,oTr 1550 2 bF),(1775,oTr 1575 5 bF)])) (hTL (oT6 w))
def oR7 (w:Nat->Nat->Int):List (Nat×List (Nat×Nat×Nat×AV)):=[(307,[(0,10,17,pI 2),(11,31,18,bF),(20,31,43,pI 4),(32,218,11,pI 7),(219,288,11,pI 2),(32,218,15,pI 7),(219,288,15,pI 2),(32,218,36,pI 7),(219,288,36,pI 2),(42,65,29,wI w 20 0),(42,65,31,wI w 21 0),(66,89,29,wI w 20 1),(66,89,31,wI w 21 1),(90,113,29,wI w 20 2),(90,113,31,wI w 21 2),(114,137,29,wI w 20 3),(114,137,31,wI w 21 3),(138,161,29,wI w 20 4),(138,161,31,wI w 21 4),(162,185,29,wI w 20 5),(162,185,31,wI w 21 5),(186,209,29,wI w 20 6),(186,209,31,wI w 21 6),(230,253,20,pI 294967296),(254,277,20,pI 4),(289,307,61,pI 6)]),oGr w 415 0,oGr w 667 1,oGr w 919 2,oGr w 1171 3,oGr w 1423 4,oGr w 1675 5]
def oT7 (w:Nat->Nat->Int):List (Nat×Nat×AV):=[(314,72,wI w 0 0),(322,80,wI w 0 1),(566,72,wI w 1 0),(574,80,wI w 1 1),(818,72,wI w 2 0),(826,80,wI w 2 1),(1070,72,wI w 3 0),(1078,80,wI w 3 1),(1322,72,wI w 4 0),(1330,80,wI w 4 1),(1574,72,wI w 5 0),(1582,80,wI w 5 1)]
def aiu (w:Nat->Nat->Int):Ctx:=cWo (JJ (oR7 w++[(1883,oTr 1826 2 bT++oTr 1845 1 bT++[(1864,1882,4,pI 0),(1864,1882,9,pI 0),(1864,1882,17,pI 0)]),(2089,oTr 1889 6 bF)])) (hTL (oT7 w))
def aiv (w:Nat->Nat->Int):Ctx:=cWo (JJ (oR7 w++[(1883,oTr 1826 2 bT++oTr 1845 1 bT++[(1864,1882,4,pI 0),(1864,1882,9,pI 0),(1864,1882,17,pI 0)]),(2089,oTr 1889 6 bT++oTr 1908 5 bF)])) (hTL (oT7 w))
def aiw (w:Nat->Nat->Int):Ctx:=cWo (JJ (oR7 w++[(1864,oTr 1826 2 bT++oTr 1845 1 bF),(2070,oTr 1870 6 bF)])) (hTL (oT7 w))
def aix (w:Nat->Nat->Int):Ctx:=cWo (JJ (oR7 w++[(1864,oTr 1826 2 bT++oTr 1845 1 bF),(2070,oTr 1870 6 bT++oTr 1889 5 bF)])) (hTL (oT7 w))
def aiy (w:Nat->Nat->Int):Ctx:=cWo (JJ (oR7 w++[(1845,oTr 1826 2 bF),(2051,oTr 1851 6 bF)])) (hTL (oT7 w))
def aiz (w:Nat->Nat->Int):Ctx:=cWo (JJ (oR7 w++[(1845,oTr 1826 2 bF),(2051,oTr 1851 6 bT++oTr 1870 5 bF)])) (hTL (oT7 w))
end
end Go.Proofs.YtbiiiloimbjpaaaGreatDoor.K
