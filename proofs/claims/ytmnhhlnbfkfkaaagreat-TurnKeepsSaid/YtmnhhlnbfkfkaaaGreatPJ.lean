/- What is proved: TurnKeeps returns true, whatever the input (part 10). No conditions beyond those of the row. -/
import Derived.Test.YtmnhhlnbfkfkaaaGreatPI
import Derived.KernelRfl
set_option linter.unusedVariables false
set_option linter.unusedSimpArgs false
set_option linter.unusedSectionVars false
namespace Go.Proofs.YtmnhhlnbfkfkaaaGreat.K
open Go Go.Eng Go.Dg
noncomputable section
def Jf (a:List Int):Prop:=(0:Int)=(0:Int)/\IntKind.i64.wrap (((↑(aa (val a*val (aa (Int.toNat (4294967296:Int)))).toNat).length:Int) - aZ (↑(aa (val a*val (aa (Int.toNat (4294967296:Int)))).toNat).length:Int)) - (1:Int))=(↑(cutL (dwV a)).length:Int) - (1:Int)
theorem SH (a:List Int):fit (dwS a) (dwS a) (af (dwS a) (dwP (((cutL (dwV a)).length:Int) - 1) 0)) ([])=some (.p (Jf a)):=by kernel_rfl
def KH (a:List Int) (i n:Int):Prop:=(decide (i>=(0:Int))=true->(((0:Int)<=aZ (↑(aa (val a*val (aa (Int.toNat (4294967296:Int)))).toNat).length:Int))/\(0:Int)<=i/\i<(↑(aa (val a*val (aa (Int.toNat (4294967296:Int)))).toNat).length:Int) - aZ (↑(aa (val a*val (aa (Int.toNat (4294967296:Int)))).toNat).length:Int))/\((aZ (↑(aa (val a*val (aa (Int.toNat (4294967296:Int)))).toNat).length:Int))+i).toNat<(aa (val a*val (aa (Int.toNat (4294967296:Int)))).toNat).length)/\((!decide (i>=(0:Int)))=true->(n=n/\i=i)/\(dwU a).F (i,n)=(Ex.exit (0:Nat),dwP i n))/\(decide (i>=(0:Int))=true->(IntKind.i64.wrap (IntKind.i64.wrap (n*(1000000000:Int))+(aa (val a*val (aa (Int.toNat (4294967296:Int)))).toNat).getD ((aZ (↑(aa (val a*val (aa (Int.toNat (4294967296:Int)))).toNat).length:Int))+i).toNat (0:Int))=n*(1000000000:Int)+(cutL (dwV a)).getD i.toNat (0:Int)/\IntKind.i64.wrap (i - (1:Int))=i - (1:Int))/\(dwU a).I ((dwU a).next (i,n))/\(dwU a).μ ((dwU a).next (i,n))<(dwU a).μ (i,n)/\(dwU a).F ((dwU a).next (i,n))=(dwU a).F (i,n))
theorem Xc (a:List Int) (i n:Int):fI (dwS a) ((dwU a).way ((i,n))) ((run cZ 300).code SG dwA (af (dwS a) ((dwU a).S (i,n))))=some (.p (KH a i n)):=by kernel_rfl
structure DwD (a:List Int):Prop where
 d:Dig a
 l:a.length<=100
 hi:dwV a / PP<4611686018427387904
theorem DwD.v {a:List Int} (h:DwD a):0<=dwV a:=Int.mul_nonneg (au h.d) (au (aH _))
theorem Xd {l:List Int} (h:Dig l) (k:Nat):val (l.drop k)<=val l:=by
 rw [BG k h]
 exact Int.ediv_le_self _ (au h)
theorem Xe {a:List Int} (h:DwD a):CodeOk cZ SG (.loop dwA) (dwS a) ⟨.tt,[⟨.tt,.exit 0,af (dwS a) (dwP (-1) (dwV a / PP))⟩]⟩:=by
 have v0:=h.v
 have hc:=MI v0
 have hv:=wo v0
 have hd:=wu (dwV a)
 have hi:=h.hi
 have c1:=xQ (n:=((aa (dwV a).toNat).length:Int)) (by omega)
 have lm:(aa (dwV a).toNat).length<=500000:=by
  have l:=h.l
  have h1:=iB h.d
  have h2:=kL l
  refine Nat.le_trans (jL (n:=102) v0 ?_) (by decide)
  have e1:val (aa (4294967296:Int).toNat)=4294967296:=dv (by decide)
  have e2:pw 102=1000000000000000000*pw 100:=by rw [kM,kM]; omega
  have h0:=au h.d
  have p:=pw_pos 100
  unfold dwV
  rw [e1,e2]; omega
 have lc:((cutL (dwV a)).length:Int)=(aa (dwV a).toNat).length - aZ (aa (dwV a).toNat).length:=by
  rw [hc,List.length_drop]; omega
 refine mZ (bR qL 300) (dwU a) (y0:=(((cutL (dwV a)).length:Int) - 1,0)) ⟨by omega,by show _ - 1<_; omega,?_⟩ ⟨_,SH a,rfl,?_⟩ (by kernel_rfl) (fun y hy=>?_) rfl
 .show 0=val ((cutL (dwV a)).drop (((cutL (dwV a)).length:Int) - 1+1).toNat)
  rw [show (((cutL (dwV a)).length:Int) - 1+1).toNat=(cutL (dwV a)).length by omega,List.drop_length]; rfl
 .show IntKind.i64.wrap (((aa (dwV a).toNat).length:Int) - aZ (aa (dwV a).toNat).length - 1)=(cutL (dwV a)).length - 1
  rw [lc,iw (by omega) (by omega)]
 .obtain ⟨i,n⟩:=y
  obtain ⟨i0,i1,hn⟩:=(show -1<=i/\i<(cutL (dwV a)).length/\n=val ((cutL (dwV a)).drop (i+1).toNat) from hy)
  refine ⟨_,Xc a i n,fun e=>?_,fun e=>?_,fun e=>?_⟩
  .have e:=dt.1 e
   exact ⟨⟨c1.1,e,by show i<((aa (dwV a).toNat).length:Int) - aZ (aa (dwV a).toNat).length; omega⟩,by show (aZ (aa (dwV a).toNat).length+i).toNat<(aa (dwV a).toNat).length; omega⟩
  .have e:=ndt.1 e
   have:i=-1:=by omega
   subst this
   refine ⟨⟨rfl,rfl⟩,?_⟩
   show (Ex.exit 0,dwP (-1) (dwV a / PP))=(Ex.exit 0,dwP (-1) n)
   rw [hn,show ((-1:Int)+1).toNat=0 from rfl,List.drop_zero,hv]
  .have e:=dt.1 e
   have hl:i.toNat<(cutL (dwV a)).length:=by omega
   have s1:=IR hl
   have s2:=Xd hd i.toNat
   rw [show i.toNat+1=(i+1).toNat by omega,<- hn] at s1
   rw [hv] at s2
   have g0:=hd.get i.toNat
   have n0:0<=n:=by rw [hn]; exact au (Jb hd _)
   have gd:(aa (dwV a).toNat).getD (aZ (aa (dwV a).toNat).length+i).toNat 0=(cutL (dwV a)).getD i.toNat 0:=by
    rw [hc,List.getD_eq_getElem?_getD,List.getD_eq_getElem?_getD,List.getElem?_drop]
    congr 2
    omega
   have w1:IntKind.i64.wrap (n*1000000000)=n*1000000000:=iw (by omega) (by omega)
   have w2:IntKind.i64.wrap (n*1000000000+(cutL (dwV a)).getD i.toNat 0)=n*1000000000+(cutL (dwV a)).getD i.toNat 0:=iw (by omega) (by omega)
   refine ⟨⟨?_,iw (by omega) (by omega)⟩,⟨by show -1<=i - 1; omega,by show i - 1<_; omega,?_⟩,by show (i - 1+1).toNat<(i+1).toNat; omega,rfl⟩
   .show IntKind.i64.wrap (IntKind.i64.wrap (n*1000000000)+(aa (dwV a).toNat).getD (aZ (aa (dwV a).toNat).length+i).toNat 0)=_
    rw [w1,gd,w2]
   .show n*1000000000+(cutL (dwV a)).getD i.toNat 0=val ((cutL (dwV a)).drop (i - 1+1).toNat)
    rw [show (i - 1+1).toNat=i.toNat by omega,s1]; omega
noncomputable def aaq (a:List Int):Ctx:=bq cZ [bZ 103 (dwS a).hp.clock SG dwA (dwS a) (.exit 0) (dwP (-1) (dwV a / PP))]
theorem Xf {a:List Int} (h:DwD a):CtxOk (aaq a):=aQ qL (Xe h) (cO qL)
def Xg (a:List Int):Prop:=((((0:Int)<(4294967296:Int)/\(4294967296:Int)<(1000000000000000000:Int))/\(((↑a.length:Int)=(↑a.length:Int)/\(↑(aa (Int.toNat (4294967296:Int))).length:Int)=(↑(aa (Int.toNat (4294967296:Int))).length:Int))/\Dig a/\Dig (aa (Int.toNat (4294967296:Int)))/\a.length+(aa (Int.toNat (4294967296:Int))).length<=(500000:Nat))/\((0:Int)<=aZ (↑(aa (val a*val (aa (Int.toNat (4294967296:Int)))).toNat).length:Int))/\(aZ (↑(aa (val a*val (aa (Int.toNat (4294967296:Int)))).toNat).length:Int))<=(↑(aa (val a*val (aa (Int.toNat (4294967296:Int)))).toNat).length:Int)/\(↑(aa (val a*val (aa (Int.toNat (4294967296:Int)))).toNat).length:Int)<=(↑(aa (val a*val (aa (Int.toNat (4294967296:Int)))).toNat).length:Int))/\At (SG) (SG) (dwA) (dwA) (dwS a) (dwS a))
def aar (a:List Int):AV:=(AV.int true IntKind.i64 (dwV a / PP))
def aas (a:List Int):Hp:=⟨[{ wr:=(0:Nat),body:=ABody.rows IntKind.i64 a }],1,28⟩
theorem afk (a:List Int):(run (aaq a) 300).call 103 (xO a) (zH a)=some ⟨.p (Xg a),[⟨.tt,aar a,aas a⟩]⟩:=by kernel_rfl
def aat:List Nu->List (List Int)->Option (Prop×To)
 | [.n k],[a]=>some (k=5/\DwD a,.nu .i64 (val a*4294967296 / PP))
 | _,_=>none
theorem SI (a:List Int):dwV a=val a*4294967296:=by
 unfold dwV
 rw [dv (by decide)]
theorem Xh:NOk Tryz.prog (fun _=>none) hG0 103 (dI hG0 .i64 [.li,.nu (.i .i64)] aat):=by
 refine gD (fun xs ys p t e h=>?_) ⟨_,Tryz.func103,rfl⟩
 unfold aat at e
 split at e
 .rename_i k y
  cases e
  obtain ⟨rfl,h⟩:=h
  have hd:=h.d
  have hl:=h.l
  have c1:=xQ (n:=((aa (dwV y).toNat).length:Int)) (by omega)
  have l2:(aa (4294967296:Int).toNat).length<=2:=jL (by decide) (by decide)
  exact ⟨aaq y,300,xO y,_,_,_,_,_,Xf h,rfl,rfl,⟨rfl,⟨rfl,rfl⟩,trivial⟩,afk y,rfl,⟨⟨⟨by decide,by decide⟩,⟨⟨rfl,rfl⟩,hd,aH _,by show _+(aa (4294967296:Int).toNat).length<=_; omega⟩,⟨c1.1,c1.2,Int.le_refl _⟩⟩,⟨rfl,rfl,rfl⟩⟩,rfl,rfl,by show dwV y / PP=_; rw [SI]⟩
 .cases e
def Jg:AFr:=⟨116,none⟩
def arA:Code:=jE Tryz.prog 116 0
def KI (x:Int) (one:List Int):List AV:=[.int true .i64 x,.lslice 0 one.length]
noncomputable def arS (x:Int) (one:List Int):St:=vT cZ 300 116 (KI x one) (zH one)
def cAr (e m:Bool):Ctx:=cZb [(22,e),(26,m)]
theorem FC (e m:Bool):CtxOk (cAr e m):=KG _
def arP:Option (Int×Int×Int)->Patch
 | none=>⟨(8,.int true .i64 1) :: (9,.any false) :: gz 15 18,[],[]⟩
 | some (i,t,s)=>⟨(5,.lslice 6 (aa s.toNat).length) :: (8,.int true .i64 i) :: (9,.any false) :: gz 15 18,[(4,.cells [.lslice 5 (aa t.toNat).length])],[.rows .i64 (aa s.toNat),.rows .i64 (aa t.toNat)]⟩
def arX (s:Int):Patch:=⟨(4,.lslice 5 (aa s.toNat).length) :: (5,.any false) :: (8,.any false) :: (9,.any false) :: gz 15 18,[(4,.dead)],[.rows .i64 (aa s.toNat)]⟩
def arQ (x:Int) (one:List Int):Int:=val one*x / (x*x)
def arR (x:Int) (one:List Int):Option (Int×Int×Int)->Int
 | none=>dN x 200 1 (val one*x) 0
 | some (i,t,s)=>dN x (200 - (i / 2).toNat) i t s
def arU (x:Int) (one:List Int):SumL (Option (Int×Int×Int)):=
 {
  S:=arP
  I:=fun y=>match y with
   | none=>True
   | some (i,t,s)=>0<t/\i % 2=1/\2<i/\i<=399/\2 ^ (i / 2).toNat*t<=4*PP/\0<=s/\(i % 4=3->t / (i - 2)<=s)/\s<=i*PP
  μ:=fun y=>match y with
   | none=>400
   | some (i,_,_)=>(400 - i).toNat
  F:=fun y=>(.ret,arX (arR x one y))
  next:=fun y=>match y with
   | none=>some (3,arQ x one,arQ x one / 1)
   | some (i,t,s)=>some (i+2,t / (x*x),match decide (i % 4=1) with|true=>s+t / (x*x) / i|false=>s - t / (x*x) / i)
  ids:=fun y=>match y with
   | none=>[5,7]
   | some _=>[7,9]
  X:=fun y _=>match y with
   | none=>none
   | some (_,_,s)=>some (arX s,[6]) }
def Jh (x:Int) (one:List Int):Prop:=(1:Int)=(1:Int)
theorem SK (x:Int) (one:List Int):fit (arS x one) (arS x one) (af (arS x one) ((arU x one).S none)) ([])=some (.p (Jh x one)):=by kernel_rfl
def SL (x:Int) (one:List Int):Prop:=((((↑(aa (val one*val [x]).toNat).length:Int)=(↑(aa (val one*val [x]).toNat).length:Int)/\Dig (aa (val one*val [x]).toNat)/\(aa (val one*val [x]).toNat).length<=(500000:Nat)/\(1:Int)<=IntKind.i64.wrap (x*x)/\IntKind.i64.wrap (x*x)<=(1000000000:Int))/\(↑(aa (val (aa (val one*val [x]).toNat) / IntKind.i64.wrap (x*x)).toNat).length:Int)=(↑(aa (val (aa (val one*val [x]).toNat) / IntKind.i64.wrap (x*x)).toNat).length:Int)/\Dig (aa (val (aa (val one*val [x]).toNat) / IntKind.i64.wrap (x*x)).toNat)/\(aa (val (aa (val one*val [x]).toNat) / IntKind.i64.wrap (x*x)).toNat).length<=(500000:Nat)/\(1:Int)<=(1:Int)/\(1:Int)<=(1000000000:Int))/\((↑(aa (val (aa (val (aa (val one*val [x]).toNat) / IntKind.i64.wrap (x*x)).toNat) / (1:Int)).toNat).length:Int)==(0:Int))=false/\(Int.tmod (1:Int) (4:Int)==(1:Int))=true/\(↑(aa (val (aa (val (aa (val one*val [x]).toNat) / IntKind.i64.wrap (x*x)).toNat) / (1:Int)).toNat).length:Int)=(↑(aa (val (aa (val (aa (val one*val [x]).toNat) / IntKind.i64.wrap (x*x)).toNat) / (1:Int)).toNat).length:Int)/\Dig []/\Dig (aa (val (aa (val (aa (val one*val [x]).toNat) / IntKind.i64.wrap (x*x)).toNat) / (1:Int)).toNat)/\((0:Nat)<([]:List Int).length\/(0:Nat)<(aa (val (aa (val (aa (val one*val [x]).toNat) / IntKind.i64.wrap (x*x)).toNat) / (1:Int)).toNat).length)/\([]:List Int).length<=(400000:Nat)/\(aa (val (aa (val (aa (val one*val [x]).toNat) / IntKind.i64.wrap (x*x)).toNat) / (1:Int)).toNat).length<=(400000:Nat))/\(true=true->(((↑(aa (val []+val (aa (val (aa (val (aa (val one*val [x]).toNat) / IntKind.i64.wrap (x*x)).toNat) / (1:Int)).toNat)).toNat).length:Int)=(↑(aa (arQ x one / (1:Int)).toNat).length:Int)/\IntKind.i64.wrap ((1:Int)+(2:Int))=(3:Int))/\(↑(aa (val (aa (val one*val [x]).toNat) / IntKind.i64.wrap (x*x)).toNat).length:Int)=(↑(aa (arQ x one).toNat).length:Int)/\aa (val []+val (aa (val (aa (val (aa (val one*val [x]).toNat) / IntKind.i64.wrap (x*x)).toNat) / (1:Int)).toNat)).toNat=aa (arQ x one / (1:Int)).toNat/\aa (val (aa (val one*val [x]).toNat) / IntKind.i64.wrap (x*x)).toNat=aa (arQ x one).toNat)/\(arU x one).I ((arU x one).next none)/\(arU x one).μ ((arU x one).next none)<(arU x one).μ none/\(arU x one).F ((arU x one).next none)=(arU x one).F none)
theorem acD (x:Int) (one:List Int):fI (arS x one) ((arU x one).way (none)) ((run (cAr false true) 300).code Jg arA (af (arS x one) ((arU x one).S none)))=some (.p (SL x one)):=by kernel_rfl
def SN (x:Int) (one:List Int) (i t s:Int):Prop:=((((↑(aa t.toNat).length:Int)=(↑(aa t.toNat).length:Int)/\Dig (aa t.toNat)/\(aa t.toNat).length<=(500000:Nat)/\(1:Int)<=IntKind.i64.wrap (x*x)/\IntKind.i64.wrap (x*x)<=(1000000000:Int))/\(↑(aa (val (aa t.toNat) / IntKind.i64.wrap (x*x)).toNat).length:Int)=(↑(aa (val (aa t.toNat) / IntKind.i64.wrap (x*x)).toNat).length:Int)/\Dig (aa (val (aa t.toNat) / IntKind.i64.wrap (x*x)).toNat)/\(aa (val (aa t.toNat) / IntKind.i64.wrap (x*x)).toNat).length<=(500000:Nat)/\(1:Int)<=i/\i<=(1000000000:Int))/\((↑(aa (val (aa (val (aa t.toNat) / IntKind.i64.wrap (x*x)).toNat) / i).toNat).length:Int)==(0:Int))=false/\(i.tmod (4:Int)==(1:Int))=true/\((↑(aa s.toNat).length:Int)=(↑(aa s.toNat).length:Int)/\(↑(aa (val (aa (val (aa t.toNat) / IntKind.i64.wrap (x*x)).toNat) / i).toNat).length:Int)=(↑(aa (val (aa (val (aa t.toNat) / IntKind.i64.wrap (x*x)).toNat) / i).toNat).length:Int))/\Dig (aa s.toNat)/\Dig (aa (val (aa (val (aa t.toNat) / IntKind.i64.wrap (x*x)).toNat) / i).toNat)/\((0:Nat)<(aa s.toNat).length\/(0:Nat)<(aa (val (aa (val (aa t.toNat) / IntKind.i64.wrap (x*x)).toNat) / i).toNat).length)/\(aa s.toNat).length<=(400000:Nat)/\(aa (val (aa (val (aa t.toNat) / IntKind.i64.wrap (x*x)).toNat) / i).toNat).length<=(400000:Nat))/\(true=true->(((↑(aa (val (aa s.toNat)+val (aa (val (aa (val (aa t.toNat) / IntKind.i64.wrap (x*x)).toNat) / i).toNat)).toNat).length:Int)=(↑(aa (match decide (i % (4:Int)=(1:Int)) with|true=>s+t / (x*x) / i|false=>s - t / (x*x) / i).toNat).length:Int)/\IntKind.i64.wrap (i+(2:Int))=i+(2:Int))/\(↑(aa (val (aa t.toNat) / IntKind.i64.wrap (x*x)).toNat).length:Int)=(↑(aa (t / (x*x)).toNat).length:Int)/\aa (val (aa s.toNat)+val (aa (val (aa (val (aa t.toNat) / IntKind.i64.wrap (x*x)).toNat) / i).toNat)).toNat=aa (match decide (i % (4:Int)=(1:Int)) with|true=>s+t / (x*x) / i|false=>s - t / (x*x) / i).toNat/\aa (val (aa t.toNat) / IntKind.i64.wrap (x*x)).toNat=aa (t / (x*x)).toNat)/\(arU x one).I ((arU x one).next (some (i,t,s)))/\(arU x one).μ ((arU x one).next (some (i,t,s)))<(arU x one).μ (some (i,t,s))/\(arU x one).F ((arU x one).next (some (i,t,s)))=(arU x one).F (some (i,t,s)))
theorem acE (x:Int) (one:List Int) (i t s:Int):fI (arS x one) ((arU x one).way ((some (i,t,s)))) ((run (cAr false true) 300).code Jg arA (af (arS x one) ((arU x one).S (some (i,t,s)))))=some (.p (SN x one i t s)):=by kernel_rfl
def SQ (x:Int) (one:List Int) (i t s:Int):Prop:=((((↑(aa t.toNat).length:Int)=(↑(aa t.toNat).length:Int)/\Dig (aa t.toNat)/\(aa t.toNat).length<=(500000:Nat)/\(1:Int)<=IntKind.i64.wrap (x*x)/\IntKind.i64.wrap (x*x)<=(1000000000:Int))/\(↑(aa (val (aa t.toNat) / IntKind.i64.wrap (x*x)).toNat).length:Int)=(↑(aa (val (aa t.toNat) / IntKind.i64.wrap (x*x)).toNat).length:Int)/\Dig (aa (val (aa t.toNat) / IntKind.i64.wrap (x*x)).toNat)/\(aa (val (aa t.toNat) / IntKind.i64.wrap (x*x)).toNat).length<=(500000:Nat)/\(1:Int)<=i/\i<=(1000000000:Int))/\((↑(aa (val (aa (val (aa t.toNat) / IntKind.i64.wrap (x*x)).toNat) / i).toNat).length:Int)==(0:Int))=false/\(i.tmod (4:Int)==(1:Int))=false/\((↑(aa s.toNat).length:Int)=(↑(aa s.toNat).length:Int)/\(↑(aa (val (aa (val (aa t.toNat) / IntKind.i64.wrap (x*x)).toNat) / i).toNat).length:Int)=(↑(aa (val (aa (val (aa t.toNat) / IntKind.i64.wrap (x*x)).toNat) / i).toNat).length:Int))/\Dig (aa s.toNat)/\Dig (aa (val (aa (val (aa t.toNat) / IntKind.i64.wrap (x*x)).toNat) / i).toNat)/\(0:Nat)<(aa s.toNat).length/\(aa s.toNat).length<=(500000:Nat)/\(aa (val (aa (val (aa t.toNat) / IntKind.i64.wrap (x*x)).toNat) / i).toNat).length<=(aa s.toNat).length/\val (aa (val (aa (val (aa t.toNat) / IntKind.i64.wrap (x*x)).toNat) / i).toNat)<=val (aa s.toNat))/\(true=true->(((↑(aa (val (aa s.toNat) - val (aa (val (aa (val (aa t.toNat) / IntKind.i64.wrap (x*x)).toNat) / i).toNat)).toNat).length:Int)=(↑(aa (match decide (i % (4:Int)=(1:Int)) with|true=>s+t / (x*x) / i|false=>s - t / (x*x) / i).toNat).length:Int)/\IntKind.i64.wrap (i+(2:Int))=i+(2:Int))/\(↑(aa (val (aa t.toNat) / IntKind.i64.wrap (x*x)).toNat).length:Int)=(↑(aa (t / (x*x)).toNat).length:Int)/\aa (val (aa s.toNat) - val (aa (val (aa (val (aa t.toNat) / IntKind.i64.wrap (x*x)).toNat) / i).toNat)).toNat=aa (match decide (i % (4:Int)=(1:Int)) with|true=>s+t / (x*x) / i|false=>s - t / (x*x) / i).toNat/\aa (val (aa t.toNat) / IntKind.i64.wrap (x*x)).toNat=aa (t / (x*x)).toNat)/\(arU x one).I ((arU x one).next (some (i,t,s)))/\(arU x one).μ ((arU x one).next (some (i,t,s)))<(arU x one).μ (some (i,t,s))/\(arU x one).F ((arU x one).next (some (i,t,s)))=(arU x one).F (some (i,t,s)))
theorem acF (x:Int) (one:List Int) (i t s:Int):fI (arS x one) ((arU x one).way ((some (i,t,s)))) ((run (cAr false false) 300).code Jg arA (af (arS x one) ((arU x one).S (some (i,t,s)))))=some (.p (SQ x one i t s)):=by kernel_rfl
def Xi (x:Int) (one:List Int) (i t s:Int):Prop:=((((↑(aa t.toNat).length:Int)=(↑(aa t.toNat).length:Int)/\Dig (aa t.toNat)/\(aa t.toNat).length<=(500000:Nat)/\(1:Int)<=IntKind.i64.wrap (x*x)/\IntKind.i64.wrap (x*x)<=(1000000000:Int))/\(↑(aa (val (aa t.toNat) / IntKind.i64.wrap (x*x)).toNat).length:Int)=(↑(aa (val (aa t.toNat) / IntKind.i64.wrap (x*x)).toNat).length:Int)/\Dig (aa (val (aa t.toNat) / IntKind.i64.wrap (x*x)).toNat)/\(aa (val (aa t.toNat) / IntKind.i64.wrap (x*x)).toNat).length<=(500000:Nat)/\(1:Int)<=i/\i<=(1000000000:Int))/\((↑(aa (val (aa (val (aa t.toNat) / IntKind.i64.wrap (x*x)).toNat) / i).toNat).length:Int)==(0:Int))=true)/\(true=true->((↑(aa s.toNat).length:Int)=(↑(aa s.toNat).length:Int)/\aa s.toNat=aa s.toNat)/\(arU x one).F (some (i,t,s))=(Ex.ret,arX s))
theorem afl (x:Int) (one:List Int) (i t s:Int):fI (arS x one) ((arU x one).way ((some (i,t,s)))) ((run (cAr true false) 300).code Jg arA (af (arS x one) ((arU x one).S (some (i,t,s)))))=some (.p (Xi x one i t s)):=by kernel_rfl
structure ArD (x:Int) (one:List Int):Prop where
 d:Dig one
 l:one.length<=100
 hi:val one<=PP
 x0:2<=x
 x1:x<=30000
 lo:0<arQ x one / 1
theorem ArD.xx {x:Int} {one:List Int} (h:ArD x one):4<=x*x/\x*x<=900000000/\IntKind.i64.wrap (x*x)=x*x:=by
 have x0:=h.x0
 have x1:=h.x1
 have a:=Int.mul_le_mul (a:=2) (b:=2) (c:=x) (d:=x) x0 x0 (by decide) (by omega)
 have b:=Int.mul_le_mul (a:=x) (b:=x) (c:=30000) (d:=30000) x1 x1 (by omega) (by decide)
 exact ⟨by omega,by omega,iw (by omega) (by omega)⟩
theorem Ji {t m:Int} (ht:0<=t) (hm:2<=m):0<=t / m/\2*(t / m)<=t:=by
 have h0:=Int.ediv_nonneg ht (show 0<=m by omega)
 have h1:=Int.ediv_mul_le t (b:=m) (by omega)
 have h2:=Int.mul_le_mul_of_nonneg_left hm h0
 exact ⟨h0,by omega⟩
theorem MJ {t m:Int} (ht:0<=t) (hm:1<=m):0<=t / m/\t / m<=t:=⟨Int.ediv_nonneg ht (by omega),Int.ediv_le_self _ ht⟩
theorem Dy {a b m n:Int} (h0:0<=a) (h1:a<=b) (h2:1<=n) (h3:n<=m):a / m<=b / n:=by
 have p1:=Int.ediv_mul_le a (b:=m) (by omega)
 have p0:0<=a / m:=Int.ediv_nonneg h0 (by omega)
 have p2:=Int.mul_le_mul_of_nonneg_left h3 p0
 exact (Int.le_ediv_iff_mul_le (by omega)).2 (by omega)
theorem ArD.q {x:Int} {one:List Int} (h:ArD x one):0<=arQ x one/\arQ x one<=PP:=by
 have v0:=au h.d
 have x0:=h.x0
 obtain ⟨a,b,_⟩:=h.xx
 refine ⟨Int.ediv_nonneg (Int.mul_nonneg v0 (by omega)) (by omega),Int.le_trans (Int.ediv_le_of_le_mul (by omega) ?_) h.hi⟩
 refine Int.mul_le_mul_of_nonneg_left ?_ v0
 have:=Int.mul_le_mul_of_nonneg_left (show 1<=x by omega) (show 0<=x by omega)
 omega
theorem SS {x:Int} {one:List Int} (h:ArD x one):arR x one (some (3,arQ x one,arQ x one / 1))=arR x one none:=by
 show dN x 199 3 _ _=dN x (199+1) 1 (val one*x) 0
 rw [Dx (show val one*x / (x*x) / 1≠0 from by have:=h.lo; unfold arQ at this; omega)]
 show _=dN x 199 (1+2) (val one*x / (x*x)) (0+val one*x / (x*x) / 1)
 rw [Int.zero_add]; rfl
theorem Xj {x:Int} {one:List Int} {i t s:Int} (hi:(i / 2).toNat<=199) (h:t / (x*x) / i=0):arR x one (some (i,t,s))=s:=by
 show dN x (200 - (i / 2).toNat) i t s=s
 rw [show 200 - (i / 2).toNat=(199 - (i / 2).toNat)+1 by omega,Sw h]
theorem SX {x:Int} {one:List Int} {i t s:Int} (h0:0<=i) (hi:(i / 2).toNat<=199) (h:t / (x*x) / i≠0):arR x one ((arU x one).next (some (i,t,s)))=arR x one (some (i,t,s)):=by
 show dN x (200 - ((i+2) / 2).toNat) (i+2) (t / (x*x)) _=dN x (200 - (i / 2).toNat) i t s
 rw [show 200 - (i / 2).toNat=(199 - (i / 2).toNat)+1 by omega,Dx h,show 200 - ((i+2) / 2).toNat=199 - (i / 2).toNat by omega]
 first|done|rfl
theorem OM {x:Int} {one:List Int} (h:ArD x one):(arU x one).I ((arU x one).next none):=by
 obtain ⟨q0,q1⟩:=h.q
 have l0:=h.lo
 rw [Int.ediv_one] at l0
 have p:=gQ
 show 0<arQ x one/\(3:Int) % 2=1/\(2:Int)<3/\(3:Int)<=399/\(2:Int) ^ (1:Nat)*arQ x one<=4*PP/\0<=arQ x one / 1/\((3:Int) % 4=3->arQ x one / (3 - 2)<=arQ x one / 1)/\arQ x one / 1<=3*PP
 rw [show (3:Int) - 2=1 from rfl,Int.ediv_one,show (2:Int) ^ (1:Nat)=2 from rfl]
 refine ⟨l0,by decide,by decide,by decide,by omega,q0,by omega,by omega⟩
theorem SY {x:Int} {one:List Int} (h:ArD x one) {i t s:Int} (hI:(arU x one).I (some (i,t,s))) (h0:t / (x*x) / i≠0):(arU x one).I ((arU x one).next (some (i,t,s))):=by
 obtain ⟨t0,i0,i1,i2,pw,s0,ts,sb⟩:=(show 0<t/\i % 2=1/\2<i/\i<=399/\2 ^ (i / 2).toNat*t<=4*PP/\0<=s/\(i % 4=3->t / (i - 2)<=s)/\s<=i*PP from hI)
 obtain ⟨xa,xb,_⟩:=h.xx
 obtain ⟨b0,b1⟩:=Ji (t:=t) (m:=x*x) (by omega) (by omega)
 obtain ⟨c0,c1⟩:=MJ (t:=t / (x*x)) (m:=i) b0 (by omega)
 have cm:i % 4=3->t / (x*x) / i<=t / (i - 2):=fun _=>Dy b0 (by omega) (by omega) (by omega)
 have ce:t / (x*x) / (i+2 - 2)<=t / (x*x) / i:=by rw [show i+2 - 2=i by omega]; exact Int.le_refl _
 have k:=Fz t0 pw
 have hp:(2:Int) ^ ((i+2) / 2).toNat*(t / (x*x))<=4*PP:=by
  rw [show ((i+2) / 2).toNat=(i / 2).toNat+1 by omega,Int.pow_succ,Int.mul_assoc]
  have:(2:Int) ^ (i / 2).toNat*(2*(t / (x*x)))<=2 ^ (i / 2).toNat*t:=Int.mul_le_mul_of_nonneg_left b1 (Int.pow_nonneg (by decide))
  omega
 have ht:t<=2*PP:=by
  have h4:(2:Int)*t<=2 ^ (i / 2).toNat*t:=by
   refine Int.mul_le_mul_of_nonneg_right ?_ (by omega)
   have:=Nat.pow_le_pow_right (n:=2) (by decide) (show 1<=(i / 2).toNat by omega)
   have e1:((2 ^ 1:Nat):Int)<=((2 ^ (i / 2).toNat:Nat):Int):=by exact_mod_cast this
   simpa using e1
  omega
 have e2:(i+2)*PP=i*PP+2*PP:=Int.add_mul _ _ _
 have p:=gQ
 have tp:0<t / (x*x):=by
  rcases Int.lt_or_eq_of_le b0 with e|e
  .exact e
  .rw [<- e] at h0; simp at h0
 show 0<t / (x*x)/\(i+2) % 2=1/\2<i+2/\i+2<=399/\2 ^ ((i+2) / 2).toNat*(t / (x*x))<=4*PP/\0<=(match decide (i % 4=1) with|true=>s+t / (x*x) / i|false=>s - t / (x*x) / i)/\((i+2) % 4=3->t / (x*x) / (i+2 - 2)<=(match decide (i % 4=1) with|true=>s+t / (x*x) / i|false=>s - t / (x*x) / i))/\(match decide (i % 4=1) with|true=>s+t / (x*x) / i|false=>s - t / (x*x) / i)<=(i+2)*PP
 have h5:0<=(match decide (i % 4=1) with|true=>s+t / (x*x) / i|false=>s - t / (x*x) / i)/\((i+2) % 4=3->t / (x*x) / (i+2 - 2)<=(match decide (i % 4=1) with|true=>s+t / (x*x) / i|false=>s - t / (x*x) / i))/\(match decide (i % 4=1) with|true=>s+t / (x*x) / i|false=>s - t / (x*x) / i)<=(i+2)*PP:=by
  by_cases hm:i % 4=1
  .rw [show (match decide (i % 4=1) with|true=>s+t / (x*x) / i|false=>s - t / (x*x) / i)=s+t / (x*x) / i by rw [decide_eq_true hm]]
   generalize t / (x*x) / i=u at *
   refine ⟨by omega,by omega,by omega⟩
  .have hm3:i % 4=3:=by omega
   have a1:=ts hm3
   have a2:=cm hm3
   rw [show (match decide (i % 4=1) with|true=>s+t / (x*x) / i|false=>s - t / (x*x) / i)=s - t / (x*x) / i by rw [decide_eq_false hm]]
   generalize t / (x*x) / i=u at *
   generalize t / (i - 2)=w at *
   refine ⟨by omega,by omega,by omega⟩
 refine ⟨tp,by omega,by omega,by omega,hp,h5⟩
theorem ww (x:Int):val [x]=x:=by simp [val]
theorem wz {x:Int} (h0:0<=x) (h1:x<1000000000):Dig [x]:=dW.2 ⟨⟨h0,h1⟩,kK⟩
theorem Xk {x:Int} {one:List Int} (h:ArD x one):CodeOk cZ Jg (.loop arA) (arS x one) ⟨.tt,[⟨.tt,.ret,af (arS x one) (arX (arR x one none))⟩]⟩:=by
 refine ni (arU x one) (y0:=none) trivial ⟨_,SK x one,rfl⟩ (by kernel_rfl) (fun y hy=>?_) rfl
 have v0:=au h.d
 have v1:=h.hi
 have yl:=h.l
 have x0:=h.x0
 have x1:=h.x1
 have p:=gQ
 obtain ⟨xa,xb,xw⟩:=h.xx
 cases y with
 | none=>
  obtain ⟨q0,q1⟩:=h.q
  have l0:=h.lo
  have e1:val (aa (val one*val [x]).toNat)=val one*x:=by rw [ww,dv (Int.mul_nonneg v0 (by omega))]
  have Q:val (aa (val one*val [x]).toNat) / IntKind.i64.wrap (x*x)=arQ x one:=by rw [e1,xw]; rfl
  have vq:=dv q0
  have vq1:=dv (a:=arQ x one / 1) (by omega)
  have l1:(aa (val one*val [x]).toNat).length<=500000:=by
   rw [ww]
   refine Nat.le_trans (jL (n:=8) (Int.mul_nonneg v0 (by omega)) ?_) (by decide)
   have:=Int.mul_le_mul v1 x1 (by omega) (by omega)
   have e:PP*30000<pw 8:=by decide
   omega
  have lq:=ky q0 (by omega)
  have lq1:=ky (a:=arQ x one / 1) (by omega) (by rw [Int.ediv_one]; omega)
  have lp:=Je l0
  refine ⟨cAr false true,300,FC _ _,rfl,rfl,_,acD x one,?_,fun _=>?_⟩
  .rw [Q,xw,vq]
   refine ⟨⟨⟨rfl,aH _,l1,by omega,by omega⟩,rfl,aH _,by omega,by decide,by decide⟩,beq_eq_false_iff_ne.2 (by omega),rfl,rfl,kK,aH _,.inr lp,by decide,by omega⟩
  .rw [Q,vq,vq1]
   have z:val []+arQ x one / 1=arQ x one / 1:=Int.zero_add _
   rw [z]
   exact ⟨⟨⟨rfl,by decide⟩,rfl,rfl,rfl⟩,OM h,by show (400 - 3:Int).toNat<400; omega,congrArg (fun z=>(Ex.ret,arX z)) (SS h)⟩
 | some y=>
  obtain ⟨i,t,s⟩:=y
  have hI:=hy
  obtain ⟨t0,i0,i1,i2,pw2,s0,ts,sb⟩:=(show 0<t/\i % 2=1/\2<i/\i<=399/\2 ^ (i / 2).toNat*t<=4*PP/\0<=s/\(i % 4=3->t / (i - 2)<=s)/\s<=i*PP from hy)
  have k:=Fz t0 pw2
  obtain ⟨b0,b1⟩:=Ji (t:=t) (m:=x*x) (by omega) (by omega)
  obtain ⟨c0,c1⟩:=MJ (t:=t / (x*x)) (m:=i) b0 (by omega)
  have ht:t<=4*PP:=by
   have h4:(1:Int)*t<=2 ^ (i / 2).toNat*t:=by
    refine Int.mul_le_mul_of_nonneg_right ?_ (by omega)
    have:=Nat.one_le_two_pow (n:=(i / 2).toNat)
    have e1:((1:Nat):Int)<=((2 ^ (i / 2).toNat:Nat):Int):=by exact_mod_cast this
    simpa using e1
   omega
  have hs:s<=400*PP:=by
   have:i*PP<=400*PP:=Int.mul_le_mul_of_nonneg_right (by omega) (by omega)
   omega
  have vt:=dv (a:=t) (by omega)
  have vs:=dv s0
  have vb:=dv b0
  have vc:=dv c0
  have dt:=aH t.toNat
  have ds:=aH s.toNat
  have db:=aH (t / (x*x)).toNat
  have dc:=aH (t / (x*x) / i).toNat
  have lt:=ky (a:=t) (by omega) (by omega)
  have ls:=ky s0 hs
  have lb:=ky b0 (by omega)
  have lc:=ky c0 (by omega)
  have w9:IntKind.i64.wrap (i+2)=i+2:=iw (by omega) (by omega)
  by_cases h0:t / (x*x) / i=0
  .refine ⟨cAr true false,300,FC _ _,rfl,rfl,_,afl x one i t s,?_,fun _=>⟨⟨rfl,rfl⟩,congrArg (fun z=>(Ex.ret,arX z)) (Xj (by omega) h0)⟩⟩
   rw [vt,xw,vb,h0]
   exact ⟨⟨⟨rfl,dt,by omega,by omega,by omega⟩,rfl,db,by omega,by omega,by omega⟩,by rw [show aa (0:Int).toNat=[] from fT]; rfl⟩
  .have lq:=Je (a:=t / (x*x) / i) (by omega)
   have nx:=SY h hI h0
   have nr:=SX (x:=x) (one:=one) (i:=i) (t:=t) (s:=s) (by omega) (by omega) h0
   have mu:(400 - (i+2)).toNat<(400 - i).toNat:=by omega
   by_cases hm:i % 4=1
   .have e4:(match decide (i % 4=1) with|true=>s+t / (x*x) / i|false=>s - t / (x*x) / i)=s+t / (x*x) / i:=by rw [decide_eq_true hm]
    refine ⟨cAr false true,300,FC _ _,rfl,rfl,_,acE x one i t s,?_,fun _=>?_⟩
    .rw [vt,xw,vb]
     refine ⟨⟨⟨rfl,dt,by omega,by omega,by omega⟩,rfl,db,by omega,by omega,by omega⟩,beq_eq_false_iff_ne.2 (by omega),?_,⟨rfl,rfl⟩,ds,dc,.inr lq,by omega,by omega⟩
     rw [Int.tmod_eq_emod_of_nonneg (by omega),hm]; rfl
    .rw [vt,xw,vb,vc,vs]
     exact ⟨⟨⟨congrArg (fun z:Int=>((aa z.toNat).length:Int)) e4.symm,w9⟩,rfl,congrArg (fun z:Int=>aa z.toNat) e4.symm,rfl⟩,nx,mu,congrArg (fun z=>(Ex.ret,arX z)) nr⟩
   .have hm3:i % 4=3:=by omega
    have a1:=ts hm3
    have a2:t / (x*x) / i<=t / (i - 2):=Dy b0 (by omega) (by omega) (by omega)
    have ql:=aak c0 (show t / (x*x) / i<=s by omega)
    have e4:(match decide (i % 4=1) with|true=>s+t / (x*x) / i|false=>s - t / (x*x) / i)=s - t / (x*x) / i:=by rw [decide_eq_false hm]
    refine ⟨cAr false false,300,FC _ _,rfl,rfl,_,acF x one i t s,?_,fun _=>?_⟩
    .rw [vt,xw,vb,vc,vs]
     refine ⟨⟨⟨rfl,dt,by omega,by omega,by omega⟩,rfl,db,by omega,by omega,by omega⟩,beq_eq_false_iff_ne.2 (by omega),?_,⟨rfl,rfl⟩,ds,dc,by omega,by omega,ql,by omega⟩
     rw [Int.tmod_eq_emod_of_nonneg (by omega),hm3]; rfl
    .rw [vt,xw,vb,vc,vs]
     exact ⟨⟨⟨congrArg (fun z:Int=>((aa z.toNat).length:Int)) e4.symm,w9⟩,rfl,congrArg (fun z:Int=>aa z.toNat) e4.symm,rfl⟩,nx,mu,congrArg (fun z=>(Ex.ret,arX z)) nr⟩
noncomputable def aau (x:Int) (one:List Int):Ctx:=bq cZ [bZ 116 (arS x one).hp.clock Jg arA (arS x one) .ret (arX (arR x one none))]
theorem Xl {x:Int} {one:List Int} (h:ArD x one):CtxOk (aau x one):=aQ qL (Xk h) (cO qL)
def Xm (x:Int) (one:List Int):Prop:=(((↑one.length:Int)=(↑one.length:Int)/\Dig one/\Dig [x]/\one.length + [x].length<=(500000:Nat))/\At (Jg) (Jg) (arA) (arA) (arS x one) (arS x one))
def aav (x:Int) (one:List Int):AV:=(AV.lslice 1 (↑(aa (arR x one none).toNat).length:Int))
def aaw (x:Int) (one:List Int):Hp:=⟨[{ wr:=15,body:=ABody.rows IntKind.i64 (aa (arR x one none).toNat) },{ wr:=(0:Nat),body:=ABody.rows IntKind.i64 one }],2,16⟩
theorem afm (x:Int) (one:List Int):(run (aau x one) 300).call 116 (KI x one) (zH one)=some ⟨.p (Xm x one),[⟨.tt,aav x one,aaw x one⟩]⟩:=by kernel_rfl
def aax:List Nu->List (List Int)->Option (Prop×To)
 | [.n x],[one]=>some (ArD x one,.li false (aa (dN x 200 1 (val one*x) 0).toNat))
 | _,_=>none
theorem aay:NOk Tryz.prog (fun _=>none) hG0 116 (dI hG0 .i64 [.nu (.i .i64),.li] aax):=by
 refine gD (fun xs ys p t e h=>?_) ⟨_,Tryz.func116,rfl⟩
 unfold aax at e
 split at e
 .rename_i x one
  cases e
  have hl:=h.l
  have x0:=h.x0
  have x1:=h.x1
  refine ⟨aau x one,300,KI x one,_,_,_,_,_,Xl h,rfl,rfl,⟨⟨rfl,rfl⟩,rfl,trivial⟩,afm x one,rfl,⟨⟨rfl,h.d,wz (by omega) (by omega),by show _+1<=_; omega⟩,⟨rfl,rfl,rfl⟩⟩,rfl,rfl,?_⟩
  exact ⟨rfl,rfl⟩
 .cases e
def tZ3:List (FuncId×pu):=(116,dI hG0 .i64 [.nu (.i .i64),.li] aax) :: (103,dI hG0 .i64 [.li,.nu (.i .i64)] aat) :: tZ2
theorem S9:∀ x∈tZ3,NOk Tryz.prog (fun _=>none) hG0 x.1 x.2:=by
 intro x hx
 rcases List.mem_cons.1 hx with rfl|hx
 .exact aay
 rcases List.mem_cons.1 hx with rfl|hx
 .exact Xh
 exact aap x hx
def cZ3:Ctx:=mkN Tryz.prog (fun _=>none) hG0 tZ3 [] lH
theorem aaz:CtxOk cZ3:=ES dL (qD _) S9 (fun x h=>by cases h)
def BI (one:List Int):Prop:=(((↑one.length:Int)=(↑one.length:Int)/\ArD (5:Int) one)/\((↑(aa (dN (5:Int) (200:Nat) (1:Int) (val one*(5:Int)) (0:Int)).toNat).length:Int)=(↑(aa (dN (5:Int) (200:Nat) (1:Int) (val one*(5:Int)) (0:Int)).toNat).length:Int)/\Dig (aa (dN (5:Int) (200:Nat) (1:Int) (val one*(5:Int)) (0:Int)).toNat)/\Dig [(8:Int)]/\(aa (dN (5:Int) (200:Nat) (1:Int) (val one*(5:Int)) (0:Int)).toNat).length + [(8:Int)].length<=(500000:Nat))/\((↑one.length:Int)=(↑one.length:Int)/\ArD (239:Int) one)/\((↑(aa (dN (239:Int) (200:Nat) (1:Int) (val one*(239:Int)) (0:Int)).toNat).length:Int)=(↑(aa (dN (239:Int) (200:Nat) (1:Int) (val one*(239:Int)) (0:Int)).toNat).length:Int)/\Dig (aa (dN (239:Int) (200:Nat) (1:Int) (val one*(239:Int)) (0:Int)).toNat)/\Dig [(2:Int)]/\(aa (dN (239:Int) (200:Nat) (1:Int) (val one*(239:Int)) (0:Int)).toNat).length + [(2:Int)].length<=(500000:Nat))/\((↑(aa (val (aa (dN (5:Int) (200:Nat) (1:Int) (val one*(5:Int)) (0:Int)).toNat)*val [(8:Int)]).toNat).length:Int)=(↑(aa (val (aa (dN (5:Int) (200:Nat) (1:Int) (val one*(5:Int)) (0:Int)).toNat)*val [(8:Int)]).toNat).length:Int)/\(↑(aa (val (aa (dN (239:Int) (200:Nat) (1:Int) (val one*(239:Int)) (0:Int)).toNat)*val [(2:Int)]).toNat).length:Int)=(↑(aa (val (aa (dN (239:Int) (200:Nat) (1:Int) (val one*(239:Int)) (0:Int)).toNat)*val [(2:Int)]).toNat).length:Int))/\Dig (aa (val (aa (dN (5:Int) (200:Nat) (1:Int) (val one*(5:Int)) (0:Int)).toNat)*val [(8:Int)]).toNat)/\Dig (aa (val (aa (dN (239:Int) (200:Nat) (1:Int) (val one*(239:Int)) (0:Int)).toNat)*val [(2:Int)]).toNat)/\(0:Nat)<(aa (val (aa (dN (5:Int) (200:Nat) (1:Int) (val one*(5:Int)) (0:Int)).toNat)*val [(8:Int)]).toNat).length/\(aa (val (aa (dN (5:Int) (200:Nat) (1:Int) (val one*(5:Int)) (0:Int)).toNat)*val [(8:Int)]).toNat).length<=(500000:Nat)/\(aa (val (aa (dN (239:Int) (200:Nat) (1:Int) (val one*(239:Int)) (0:Int)).toNat)*val [(2:Int)]).toNat).length<=(aa (val (aa (dN (5:Int) (200:Nat) (1:Int) (val one*(5:Int)) (0:Int)).toNat)*val [(8:Int)]).toNat).length/\val (aa (val (aa (dN (239:Int) (200:Nat) (1:Int) (val one*(239:Int)) (0:Int)).toNat)*val [(2:Int)]).toNat)<=val (aa (val (aa (dN (5:Int) (200:Nat) (1:Int) (val one*(5:Int)) (0:Int)).toNat)*val [(8:Int)]).toNat))
def OO (one:List Int):AV:=(AV.lslice 1 (↑(aa (val (aa (val (aa (dN (5:Int) (200:Nat) (1:Int) (val one*(5:Int)) (0:Int)).toNat)*val [(8:Int)]).toNat) - val (aa (val (aa (dN (239:Int) (200:Nat) (1:Int) (val one*(239:Int)) (0:Int)).toNat)*val [(2:Int)]).toNat)).toNat).length:Int))
def OP (one:List Int):Hp:=⟨[{ wr:=12,body:=ABody.rows IntKind.i64 (aa (val (aa (val (aa (dN (5:Int) (200:Nat) (1:Int) (val one*(5:Int)) (0:Int)).toNat)*val [(8:Int)]).toNat) - val (aa (val (aa (dN (239:Int) (200:Nat) (1:Int) (val one*(239:Int)) (0:Int)).toNat)*val [(2:Int)]).toNat)).toNat) },{ wr:=(0:Nat),body:=ABody.rows IntKind.i64 one }],2,13⟩
theorem Xn (one:List Int):(run cZ3 300).call 97 [.lslice 0 one.length] (zH one)=some ⟨.p (BI one),[⟨.tt,OO one,OP one⟩]⟩:=by kernel_rfl
def RGT:Int:=1570796326794896619231321691639751442098584716
def aaA:List Nu->List (List Int)->Option (Prop×To)
 | [],[one]=>some (Dig one/\one.length<=100/\val one=PP,.li false (aa RGT.toNat))
 | _,_=>none
theorem acG:dN 5 200 1 (PP*5) 0=197395559849880758370049765194790293447585106:=by kernel_rfl
theorem Xo:dN 239 200 1 (PP*239) 0=4184076002074723864538214959285452741048066:=by kernel_rfl
theorem aaB:NOk Tryz.prog (fun _=>none) hG0 97 (dI hG0 .i64 [.li] aaA):=by
 refine gD (fun xs ys p t e h=>?_) ⟨_,Tryz.func97,rfl⟩
 unfold aaA at e
 split at e
 .rename_i one
  cases e
  obtain ⟨hd,hl,hv⟩:=h
  have d5:ArD 5 one:=⟨hd,hl,by omega,by decide,by decide,by unfold arQ; rw [hv]; decide⟩
  have d239:ArD 239 one:=⟨hd,hl,by omega,by decide,by decide,by unfold arQ; rw [hv]; decide⟩
  have e5:dN 5 200 1 (val one*5) 0=197395559849880758370049765194790293447585106:=by rw [hv]; exact acG
  have e239:dN 239 200 1 (val one*239) 0=4184076002074723864538214959285452741048066:=by rw [hv]; exact Xo
  have v5:val (aa (Int.toNat 197395559849880758370049765194790293447585106))=197395559849880758370049765194790293447585106:=dv (by decide)
  have v239:val (aa (Int.toNat 4184076002074723864538214959285452741048066))=4184076002074723864538214959285452741048066:=dv (by decide)
  have e8:val [8]=8:=ww 8
  have e2:val [2]=2:=ww 2
  have l5:(aa (Int.toNat 197395559849880758370049765194790293447585106)).length<=6:=ky (a:=197395559849880758370049765194790293447585106) (by decide) (by decide)
  have l239:(aa (Int.toNat 4184076002074723864538214959285452741048066)).length<=6:=ky (a:=4184076002074723864538214959285452741048066) (by decide) (by decide)
  have la:(aa (Int.toNat (197395559849880758370049765194790293447585106*8))).length<=6:=ky (a:=197395559849880758370049765194790293447585106*8) (by decide) (by decide)
  have lb:(aa (Int.toNat (4184076002074723864538214959285452741048066*2))).length<=(aa (Int.toNat (197395559849880758370049765194790293447585106*8))).length:=aak (a:=4184076002074723864538214959285452741048066*2) (b:=197395559849880758370049765194790293447585106*8) (by decide) (by decide)
  have l0:0<(aa (Int.toNat (197395559849880758370049765194790293447585106*8))).length:=Je (a:=197395559849880758370049765194790293447585106*8) (by decide)
  have va:val (aa (Int.toNat (197395559849880758370049765194790293447585106*8)))=197395559849880758370049765194790293447585106*8:=dv (by decide)
  have vb:val (aa (Int.toNat (4184076002074723864538214959285452741048066*2)))=4184076002074723864538214959285452741048066*2:=dv (by decide)
  refine ⟨cZ3,300,[.lslice 0 one.length],_,_,_,_,_,aaz,rfl,rfl,⟨rfl,trivial⟩,Xn one,rfl,?_,rfl,rfl,?_⟩
  .unfold BI
   rw [e5,e239,v5,v239,e8,e2,va,vb]
   refine ⟨⟨rfl,d5⟩,⟨rfl,aH _,wz (by decide) (by decide),by show _+1<=_; omega⟩,⟨rfl,d239⟩,⟨rfl,aH _,wz (by decide) (by decide),by show _+1<=_; omega⟩,⟨rfl,rfl⟩,aH _,aH _,l0,by omega,lb,by decide⟩
  .refine ⟨rfl,?_⟩
   show aa (val (aa (val (aa (dN 5 200 1 (val one*5) 0).toNat)*val [8]).toNat) - val (aa (val (aa (dN 239 200 1 (val one*239) 0).toNat)*val [2]).toNat)).toNat=_
   rw [e5,e239,v5,v239,e8,e2,va,vb]
   rfl
 .cases e
def cOv:Ctx:=cZb [(18,false),(24,true)]
theorem aaC:CtxOk cOv:=KG _
def Xp (a b:List Int):Prop:=(((((↑a.length:Int)=(↑a.length:Int)/\(↑b.length:Int)=(↑b.length:Int))/\Sm a/\Sm b)/\decide (sj a b<(0:Int))=false)/\((↑b.length:Int)==(1:Int))=true/\((0:Int)<=(0:Int)/\(0:Int)<(↑b.length:Int))/\Int.toNat (0:Int)<b.length/\(↑a.length:Int)=(↑a.length:Int)/\Dig a/\a.length<=(500000:Nat)/\(1:Int)<=b.getD (Int.toNat (0:Int)) (0:Int)/\b.getD (Int.toNat (0:Int)) (0:Int)<=(1000000000:Int))
def aaD (a b:List Int):AV:=(AV.tuple [AV.lslice 2 (↑(aa (val a / b.getD (Int.toNat (0:Int)) (0:Int)).toNat).length:Int),AV.any true])
def aaE (a b:List Int):Hp:=⟨[{ wr:=21,body:=ABody.rows IntKind.i64 (aa (val a / b.getD (Int.toNat (0:Int)) (0:Int)).toNat) },{ wr:=(0:Nat),body:=ABody.rows IntKind.i64 b },{ wr:=(0:Nat),body:=ABody.rows IntKind.i64 a }],3,69⟩
theorem afn (a b:List Int):(run cOv 300).call 100 (zB a b) (zG a b)=some ⟨.p (Xp a b),[⟨.tt,aaD a b,aaE a b⟩]⟩:=by kernel_rfl
theorem Ta {b:List Int} (h:b.length=1):val b=b.getD 0 0:=by
 match b,h with
 | [x],_=>simp [val]
def Xq:List (Nat×Nat×Nat×AV)->Nat->Nat->Option AV
 | [],_,_=>none
 | (a,b,t',v) :: l,c,t=>match Nat.beq t t'&&Nat.ble a c&&Nat.ble c b with
  | true=>some v
  | false=>Xq l c t
def oA1:List Int:=[394338864,559005768,925286766,179586476,283185307,6]
def oB1:List Int:=[294967296,4]
def oH1:List (Nat×Nat×Nat×AV):=[(0,10,17,.int false .i64 2),(11,31,18,.bool false false),(20,31,43,.int false .i64 4),(32,194,11,.int false .i64 6),(195,264,11,.int false .i64 2),(32,194,15,.int false .i64 6),(195,264,15,.int false .i64 2),(32,194,36,.int false .i64 6),(195,264,36,.int false .i64 2),(42,65,20,.int false .i64 394338864),(66,89,20,.int false .i64 559005768),(90,113,20,.int false .i64 925286766),(114,137,20,.int false .i64 179586476),(138,161,20,.int false .i64 283185307),(162,185,20,.int false .i64 6),(206,229,20,.int false .i64 294967296),(230,253,20,.int false .i64 4),(265,294,55,.int false .i64 6)]
def cO1:Ctx:=fZ cZ (Xq oH1)
theorem aaF:CtxOk cO1:=bU qL _
def oA2:List Int:=[711109072,823253194,522842290,119904847,977824172,746518845,6]
def oB2:List Int:=[294967296,4]
def oH2:List (Nat×Nat×Nat×AV):=[(0,10,17,.int false .i64 2),(11,31,18,.bool false false),(20,31,43,.int false .i64 4),(32,218,11,.int false .i64 7),(219,288,11,.int false .i64 2),(32,218,15,.int false .i64 7),(219,288,15,.int false .i64 2),(32,218,36,.int false .i64 7),(219,288,36,.int false .i64 2),(42,65,20,.int false .i64 711109072),(66,89,20,.int false .i64 823253194),(90,113,20,.int false .i64 522842290),(114,137,20,.int false .i64 119904847),(138,161,20,.int false .i64 977824172),(162,185,20,.int false .i64 746518845),(186,209,20,.int false .i64 6),(230,253,20,.int false .i64 294967296),(254,277,20,.int false .i64 4),(289,318,55,.int false .i64 7)]
def cO2:Ctx:=fZ cZ (Xq oH2)
theorem aaG:CtxOk cO2:=bU qL _
def oA3:List Int:=[552723968,691129481,224064528,649745662,130504739,373259426,3]
def oB3:List Int:=[221225472,3]
def oH3:List (Nat×Nat×Nat×AV):=[(0,10,17,.int false .i64 2),(11,31,18,.bool false false),(20,31,43,.int false .i64 3),(32,218,11,.int false .i64 7),(219,288,11,.int false .i64 2),(32,218,15,.int false .i64 7),(219,288,15,.int false .i64 2),(32,218,36,.int false .i64 7),(219,288,36,.int false .i64 2),(42,65,20,.int false .i64 552723968),(66,89,20,.int false .i64 691129481),(90,113,20,.int false .i64 224064528),(114,137,20,.int false .i64 649745662),(138,161,20,.int false .i64 130504739),(162,185,20,.int false .i64 373259426),(186,209,20,.int false .i64 3),(230,253,20,.int false .i64 221225472),(254,277,20,.int false .i64 3),(289,318,55,.int false .i64 7)]
def cO3:Ctx:=fZ cZ (Xq oH3)
theorem aaH:CtxOk cO3:=bU qL _
def FD (z:Int):Prop:=((↑oB1.length:Int)=(2:Int)/\((((↑oA1.length:Int)=(↑oA1.length:Int)/\(↑oB1.length:Int)=(↑oB1.length:Int))/\Sm oA1/\Sm oB1)/\decide (sj oA1 oB1<(0:Int))=false)/\(((0:Int)<=Int.ofNat 1/\Int.ofNat 1<(↑oB1.length:Int))/\(Int.ofNat 1).toNat<oB1.length/\oB1.getD (Int.ofNat 1).toNat (0:Int)=(4:Int))/\(((↑oA1.length:Int)=(6:Int)/\((↑oA1.length:Int)=(6:Int)/\(((0:Int)<=(0:Int)/\(0:Int)<(↑oA1.length:Int))/\Int.toNat (0:Int)<oA1.length/\oA1.getD (Int.toNat (0:Int)) (0:Int)=(394338864:Int))/\(((0:Int)<=Int.ofNat 1/\Int.ofNat 1<(↑oA1.length:Int))/\(Int.ofNat 1).toNat<oA1.length/\oA1.getD (Int.ofNat 1).toNat (0:Int)=(559005768:Int))/\(((0:Int)<=Int.ofNat 2/\Int.ofNat 2<(↑oA1.length:Int))/\(Int.ofNat 2).toNat<oA1.length/\oA1.getD (Int.ofNat 2).toNat (0:Int)=(925286766:Int))/\(((0:Int)<=Int.ofNat 3/\Int.ofNat 3<(↑oA1.length:Int))/\(Int.ofNat 3).toNat<oA1.length/\oA1.getD (Int.ofNat 3).toNat (0:Int)=(179586476:Int))/\(((0:Int)<=Int.ofNat 4/\Int.ofNat 4<(↑oA1.length:Int))/\(Int.ofNat 4).toNat<oA1.length/\oA1.getD (Int.ofNat 4).toNat (0:Int)=(283185307:Int))/\((0:Int)<=Int.ofNat 5/\Int.ofNat 5<(↑oA1.length:Int))/\(Int.ofNat 5).toNat<oA1.length/\oA1.getD (Int.ofNat 5).toNat (0:Int)=(6:Int))/\(↑oA1.length:Int)=(6:Int))/\(↑oB1.length:Int)=(2:Int)/\((↑oB1.length:Int)=(2:Int)/\(((0:Int)<=(0:Int)/\(0:Int)<(↑oB1.length:Int))/\Int.toNat (0:Int)<oB1.length/\oB1.getD (Int.toNat (0:Int)) (0:Int)=(294967296:Int))/\((0:Int)<=Int.ofNat 1/\Int.ofNat 1<(↑oB1.length:Int))/\(Int.ofNat 1).toNat<oB1.length/\oB1.getD (Int.ofNat 1).toNat (0:Int)=(4:Int))/\(↑oB1.length:Int)=(2:Int))/\(↑oA1.length:Int)=(6:Int)/\Dig [Int.ofNat 400000000,Int.ofNat 45323990]/\[Int.ofNat 400000000,Int.ofNat 45323990].length<=(500000:Nat)/\(1:Int)<=Int.ofNat 200000000/\Int.ofNat 200000000<=(1000000000:Int))
def aaI (z:Int):AV:=(AV.tuple [AV.slice 2 (0:Nat) 5 5,AV.lslice 3 (↑(aa (val [Int.ofNat 400000000,Int.ofNat 45323990] / Int.ofNat 200000000).toNat).length:Int)])
def aaJ (z:Int):Hp:=⟨[{ wr:=1190,body:=ABody.rows IntKind.i64 (aa (val [Int.ofNat 400000000,Int.ofNat 45323990] / Int.ofNat 200000000).toNat) },{ wr:=1162,body:=ABody.cells [AV.int false IntKind.i64 (Int.ofNat 309792297),AV.int false IntKind.i64 (Int.ofNat 51337804),AV.int false IntKind.i64 (Int.ofNat 267159681),AV.int false IntKind.i64 (Int.ofNat 462918079),AV.int false IntKind.i64 (Int.ofNat 1)] },{ wr:=(0:Nat),body:=ABody.rows IntKind.i64 [(294967296:Int),(4:Int)] },{ wr:=(0:Nat),body:=ABody.rows IntKind.i64 [(394338864:Int),(559005768:Int),(925286766:Int),(179586476:Int),(283185307:Int),(6:Int)] }],4,1216⟩
theorem afo (z:Int):(run cO1 300).call 100 (zB oA1 oB1) (zG oA1 oB1)=some ⟨.p (FD z),[⟨.tt,aaI z,aaJ z⟩]⟩:=by kernel_rfl
def FE (z:Int):Prop:=((↑oB2.length:Int)=(2:Int)/\((((↑oA2.length:Int)=(↑oA2.length:Int)/\(↑oB2.length:Int)=(↑oB2.length:Int))/\Sm oA2/\Sm oB2)/\decide (sj oA2 oB2<(0:Int))=false)/\(((0:Int)<=Int.ofNat 1/\Int.ofNat 1<(↑oB2.length:Int))/\(Int.ofNat 1).toNat<oB2.length/\oB2.getD (Int.ofNat 1).toNat (0:Int)=(4:Int))/\(((↑oA2.length:Int)=(7:Int)/\((↑oA2.length:Int)=(7:Int)/\(((0:Int)<=(0:Int)/\(0:Int)<(↑oA2.length:Int))/\Int.toNat (0:Int)<oA2.length/\oA2.getD (Int.toNat (0:Int)) (0:Int)=(711109072:Int))/\(((0:Int)<=Int.ofNat 1/\Int.ofNat 1<(↑oA2.length:Int))/\(Int.ofNat 1).toNat<oA2.length/\oA2.getD (Int.ofNat 1).toNat (0:Int)=(823253194:Int))/\(((0:Int)<=Int.ofNat 2/\Int.ofNat 2<(↑oA2.length:Int))/\(Int.ofNat 2).toNat<oA2.length/\oA2.getD (Int.ofNat 2).toNat (0:Int)=(522842290:Int))/\(((0:Int)<=Int.ofNat 3/\Int.ofNat 3<(↑oA2.length:Int))/\(Int.ofNat 3).toNat<oA2.length/\oA2.getD (Int.ofNat 3).toNat (0:Int)=(119904847:Int))/\(((0:Int)<=Int.ofNat 4/\Int.ofNat 4<(↑oA2.length:Int))/\(Int.ofNat 4).toNat<oA2.length/\oA2.getD (Int.ofNat 4).toNat (0:Int)=(977824172:Int))/\(((0:Int)<=Int.ofNat 5/\Int.ofNat 5<(↑oA2.length:Int))/\(Int.ofNat 5).toNat<oA2.length/\oA2.getD (Int.ofNat 5).toNat (0:Int)=(746518845:Int))/\((0:Int)<=Int.ofNat 6/\Int.ofNat 6<(↑oA2.length:Int))/\(Int.ofNat 6).toNat<oA2.length/\oA2.getD (Int.ofNat 6).toNat (0:Int)=(6:Int))/\(↑oA2.length:Int)=(7:Int))/\(↑oB2.length:Int)=(2:Int)/\((↑oB2.length:Int)=(2:Int)/\(((0:Int)<=(0:Int)/\(0:Int)<(↑oB2.length:Int))/\Int.toNat (0:Int)<oB2.length/\oB2.getD (Int.toNat (0:Int)) (0:Int)=(294967296:Int))/\((0:Int)<=Int.ofNat 1/\Int.ofNat 1<(↑oB2.length:Int))/\(Int.ofNat 1).toNat<oB2.length/\oB2.getD (Int.ofNat 1).toNat (0:Int)=(4:Int))/\(↑oB2.length:Int)=(2:Int))/\(↑oA2.length:Int)=(7:Int)/\Dig [Int.ofNat 800000000,Int.ofNat 813669468]/\[Int.ofNat 800000000,Int.ofNat 813669468].length<=(500000:Nat)/\(1:Int)<=Int.ofNat 200000000/\Int.ofNat 200000000<=(1000000000:Int))
def aaK (z:Int):AV:=(AV.tuple [AV.slice 2 (0:Nat) 6 6,AV.lslice 3 (↑(aa (val [Int.ofNat 800000000,Int.ofNat 813669468] / Int.ofNat 200000000).toNat).length:Int)])
def aaL (z:Int):Hp:=⟨[{ wr:=1469,body:=ABody.rows IntKind.i64 (aa (val [Int.ofNat 800000000,Int.ofNat 813669468] / Int.ofNat 200000000).toNat) },{ wr:=1441,body:=ABody.cells [AV.int false IntKind.i64 (Int.ofNat 788792418),AV.int false IntKind.i64 (Int.ofNat 588413637),AV.int false IntKind.i64 (Int.ofNat 964162010),AV.int false IntKind.i64 (Int.ofNat 331978539),AV.int false IntKind.i64 (Int.ofNat 570796325),AV.int false IntKind.i64 (Int.ofNat 1)] },{ wr:=(0:Nat),body:=ABody.rows IntKind.i64 [(294967296:Int),(4:Int)] },{ wr:=(0:Nat),body:=ABody.rows IntKind.i64 [(711109072:Int),(823253194:Int),(522842290:Int),(119904847:Int),(977824172:Int),(746518845:Int),(6:Int)] }],4,1495⟩
theorem afp (z:Int):(run cO2 300).call 100 (zB oA2 oB2) (zG oA2 oB2)=some ⟨.p (FE z),[⟨.tt,aaK z,aaL z⟩]⟩:=by kernel_rfl
def FH (z:Int):Prop:=((↑oB3.length:Int)=(2:Int)/\((((↑oA3.length:Int)=(↑oA3.length:Int)/\(↑oB3.length:Int)=(↑oB3.length:Int))/\Sm oA3/\Sm oB3)/\decide (sj oA3 oB3<(0:Int))=false)/\(((0:Int)<=Int.ofNat 1/\Int.ofNat 1<(↑oB3.length:Int))/\(Int.ofNat 1).toNat<oB3.length/\oB3.getD (Int.ofNat 1).toNat (0:Int)=(3:Int))/\(((↑oA3.length:Int)=(7:Int)/\((↑oA3.length:Int)=(7:Int)/\(((0:Int)<=(0:Int)/\(0:Int)<(↑oA3.length:Int))/\Int.toNat (0:Int)<oA3.length/\oA3.getD (Int.toNat (0:Int)) (0:Int)=(552723968:Int))/\(((0:Int)<=Int.ofNat 1/\Int.ofNat 1<(↑oA3.length:Int))/\(Int.ofNat 1).toNat<oA3.length/\oA3.getD (Int.ofNat 1).toNat (0:Int)=(691129481:Int))/\(((0:Int)<=Int.ofNat 2/\Int.ofNat 2<(↑oA3.length:Int))/\(Int.ofNat 2).toNat<oA3.length/\oA3.getD (Int.ofNat 2).toNat (0:Int)=(224064528:Int))/\(((0:Int)<=Int.ofNat 3/\Int.ofNat 3<(↑oA3.length:Int))/\(Int.ofNat 3).toNat<oA3.length/\oA3.getD (Int.ofNat 3).toNat (0:Int)=(649745662:Int))/\(((0:Int)<=Int.ofNat 4/\Int.ofNat 4<(↑oA3.length:Int))/\(Int.ofNat 4).toNat<oA3.length/\oA3.getD (Int.ofNat 4).toNat (0:Int)=(130504739:Int))/\(((0:Int)<=Int.ofNat 5/\Int.ofNat 5<(↑oA3.length:Int))/\(Int.ofNat 5).toNat<oA3.length/\oA3.getD (Int.ofNat 5).toNat (0:Int)=(373259426:Int))/\((0:Int)<=Int.ofNat 6/\Int.ofNat 6<(↑oA3.length:Int))/\(Int.ofNat 6).toNat<oA3.length/\oA3.getD (Int.ofNat 6).toNat (0:Int)=(3:Int))/\(↑oA3.length:Int)=(7:Int))/\(↑oB3.length:Int)=(2:Int)/\((↑oB3.length:Int)=(2:Int)/\(((0:Int)<=(0:Int)/\(0:Int)<(↑oB3.length:Int))/\Int.toNat (0:Int)<oB3.length/\oB3.getD (Int.toNat (0:Int)) (0:Int)=(221225472:Int))/\((0:Int)<=Int.ofNat 1/\Int.ofNat 1<(↑oB3.length:Int))/\(Int.ofNat 1).toNat<oB3.length/\oB3.getD (Int.ofNat 1).toNat (0:Int)=(3:Int))/\(↑oB3.length:Int)=(2:Int))/\(↑oA3.length:Int)=(7:Int)/\Dig ([]:List Int)/\([]:List Int).length<=(500000:Nat)/\(1:Int)<=Int.ofNat 250000000/\Int.ofNat 250000000<=(1000000000:Int))
def aaM (z:Int):AV:=(AV.tuple [AV.slice 2 (0:Nat) 6 6,AV.lslice 3 (↑(aa (val ([]:List Int) / Int.ofNat 250000000).toNat).length:Int)])
def aaN (z:Int):Hp:=⟨[{ wr:=1393,body:=ABody.rows IntKind.i64 (aa (val ([]:List Int) / Int.ofNat 250000000).toNat) },{ wr:=1327,body:=ABody.cells [AV.int false IntKind.i64 (Int.ofNat 65723144),AV.int false IntKind.i64 (Int.ofNat 93167628),AV.int false IntKind.i64 (Int.ofNat 154214461),AV.int false IntKind.i64 (Int.ofNat 196597746),AV.int false IntKind.i64 (Int.ofNat 47197551),AV.int false IntKind.i64 (Int.ofNat 1)] },{ wr:=(0:Nat),body:=ABody.rows IntKind.i64 [(221225472:Int),(3:Int)] },{ wr:=(0:Nat),body:=ABody.rows IntKind.i64 [(552723968:Int),(691129481:Int),(224064528:Int),(649745662:Int),(130504739:Int),(373259426:Int),(3:Int)] }],4,1419⟩
theorem afq (z:Int):(run cO3 300).call 100 (zB oA3 oB3) (zG oA3 oB3)=some ⟨.p (FH z),[⟨.tt,aaM z,aaN z⟩]⟩:=by kernel_rfl
def OvC (a b:List Int):Prop:=(a=oA1/\b=oB1)\/(a=oA2/\b=oB2)\/(a=oA3/\b=oB3)
theorem KJ {l:List Int} (h:Nat.ble l.length 500000=true):Sm l:=Nat.le_of_ble_eq_true h
theorem FI {x y:Int} (h:0<=x/\x<1000000000/\0<=y/\y<1000000000):Dig [x,y]:=dW.2 ⟨⟨h.1,h.2.1⟩,wz h.2.2.1 h.2.2.2⟩
theorem OQ (z:Int):FD z:=by
 unfold FD
 and_intros <;> first|rfl|exact KJ rfl|exact kK|decide|exact FI (by decide)
theorem OT (z:Int):FE z:=by
 unfold FE
 and_intros <;> first|rfl|exact KJ rfl|exact kK|decide|exact FI (by decide)
theorem OU (z:Int):FH z:=by
 unfold FH
 and_intros <;> first|rfl|exact KJ rfl|exact kK|decide|exact FI (by decide)
def aaO:List Nu->List (List Int)->Option (Prop×To)
 | [],[a,b]=>some ((Dig a/\Dig b/\Top a/\Top b/\a.length<=500000/\b.length=1/\0<val b/\val b<=val a)\/OvC a b,.tu [.li false (aa (val a / val b).toNat),.any])
 | _,_=>none
theorem acH:aa (val oA1 / val oB1).toNat=[309792297,51337804,267159681,462918079,1]:=nK (l:=[309792297,51337804,267159681,462918079,1]) (fun x hx=>by simp at hx; omega) (by unfold Top; decide)
theorem acI:aa (val oA2 / val oB2).toNat=[788792418,588413637,964162010,331978539,570796325,1]:=nK (l:=[788792418,588413637,964162010,331978539,570796325,1]) (fun x hx=>by simp at hx; omega) (by unfold Top; decide)
theorem acJ:aa (val oA3 / val oB3).toNat=[65723144,93167628,154214461,196597746,47197551,1]:=nK (l:=[65723144,93167628,154214461,196597746,47197551,1]) (fun x hx=>by simp at hx; omega) (by unfold Top; decide)
theorem Tc:NOk Tryz.prog (fun _=>none) hG0 100 (dI hG0 .i64 [.li,.li] aaO):=by
 refine gD (fun xs ys p t e h=>?_) ⟨_,Tryz.func100,rfl⟩
 unfold aaO at e
 split at e
 .rename_i a b
  cases e
  rcases h with ⟨ha,hb,ta,tb,la,lb,h0,h1⟩|⟨rfl,rfl⟩|⟨rfl,rfl⟩|⟨rfl,rfl⟩
  .have e1:=Ta lb
   have g:=hb.get 0
   have hc:¬ sj a b<0:=fun hh=>by have:=(WO ha hb ta tb la (by omega)).1 hh; omega
   refine ⟨cOv,300,zB a b,_,_,_,_,_,aaC,rfl,rfl,⟨rfl,rfl,trivial⟩,afn a b,rfl,⟨⟨⟨⟨rfl,rfl⟩,la,by show _<=_; omega⟩,decide_eq_false hc⟩,beq_iff_eq.2 (by omega),⟨by decide,by omega⟩,by show 0<_; omega,rfl,ha,la,by show 1<=b.getD 0 0; omega,by show b.getD 0 0<=_; omega⟩,rfl,rfl,rfl,?_⟩
   show aa (val a / b.getD 0 0).toNat=_
   rw [e1]
  .refine ⟨cO1,300,zB oA1 oB1,_,_,_,_,_,aaF,rfl,rfl,⟨rfl,rfl,trivial⟩,afo 0,rfl,OQ 0,rfl,rfl,?_⟩
   exact acH.symm
  .refine ⟨cO2,300,zB oA2 oB2,_,_,_,_,_,aaG,rfl,rfl,⟨rfl,rfl,trivial⟩,afp 0,rfl,OT 0,rfl,rfl,?_⟩
   exact acI.symm
  .refine ⟨cO3,300,zB oA3 oB3,_,_,_,_,_,aaH,rfl,rfl,⟨rfl,rfl,trivial⟩,afq 0,rfl,OU 0,rfl,rfl,?_⟩
   exact acJ.symm
 .cases e
def tZ4:List (FuncId×pu):=(100,dI hG0 .i64 [.li,.li] aaO) :: (97,dI hG0 .i64 [.li] aaA) :: tZ3
theorem aaP:∀ x∈tZ4,NOk Tryz.prog (fun _=>none) hG0 x.1 x.2:=by
 intro x hx
 rcases List.mem_cons.1 hx with rfl|hx
 .exact Tc
 rcases List.mem_cons.1 hx with rfl|hx
 .exact aaB
 exact S9 x hx
def cZ4:Ctx:=mkN Tryz.prog (fun _=>none) hG0 tZ4 [] lH
theorem aaQ:CtxOk cZ4:=ES dL (qD _) aaP (fun x h=>by cases h)
def cQu (l:List (Nat×Bool)):Ctx:=fZ cZ4 (hZ (l.map fun x=>(x.1,match x.2 with|true=>.bool false true|false=>.bool false false)))
theorem FJ (l:List (Nat×Bool)):CtxOk (cQu l):=bU aaQ _
def FK (m d:Int):List AV:=[.int true .i64 m,.int true .i64 d]
def quY (m d:Int):List Int:=aa (val (aa (val (aa RGT.toNat)*val (aa m.toNat)).toNat) / val (aa d.toNat)).toNat
def quS (m d:Int):List Int:=aa (seR (quY m d) none).toNat
def MK (m d:Int):Prop:=(((m==(0:Int))=false/\(m==d)=false/\(IntKind.i64.wrap ((3:Int)*m)==d)=false)/\((Dig [(0:Int),(0:Int),(0:Int),(0:Int),(0:Int),(1:Int)]/\[(0:Int),(0:Int),(0:Int),(0:Int),(0:Int),(1:Int)].length<=(100:Nat)/\val [(0:Int),(0:Int),(0:Int),(0:Int),(0:Int),(1:Int)]=PP)/\((0:Int)<m/\m<(1000000000000000000:Int))/\(((↑(aa RGT.toNat).length:Int)=(↑(aa RGT.toNat).length:Int)/\(↑(aa m.toNat).length:Int)=(↑(aa m.toNat).length:Int))/\Dig (aa RGT.toNat)/\Dig (aa m.toNat)/\(aa RGT.toNat).length+(aa m.toNat).length<=(500000:Nat))/\((0:Int)<d/\d<(1000000000000000000:Int))/\((↑(aa (val (aa RGT.toNat)*val (aa m.toNat)).toNat).length:Int)=(↑(aa (val (aa RGT.toNat)*val (aa m.toNat)).toNat).length:Int)/\(↑(aa d.toNat).length:Int)=(↑(aa d.toNat).length:Int))/\(Dig (aa (val (aa RGT.toNat)*val (aa m.toNat)).toNat)/\Dig (aa d.toNat)/\Top (aa (val (aa RGT.toNat)*val (aa m.toNat)).toNat)/\Top (aa d.toNat)/\(aa (val (aa RGT.toNat)*val (aa m.toNat)).toNat).length<=(500000:Nat)/\(aa d.toNat).length=(1:Nat)/\(0:Int)<val (aa d.toNat)/\val (aa d.toNat)<=val (aa (val (aa RGT.toNat)*val (aa m.toNat)).toNat)\/OvC (aa (val (aa RGT.toNat)*val (aa m.toNat)).toNat) (aa d.toNat)))/\((↑(quY m d).length:Int)=(↑(quY m d).length:Int)/\(5:Int)=(5:Int)/\SeD (quY m d))/\(((↑(quS m d).length:Int)=(↑(quS m d).length:Int)/\Sm (quS m d)/\Sm [(100000000:Int)])/\decide (sj (quS m d) [(100000000:Int)]<=(0:Int))=false)/\(((↑(quS m d).length:Int)=(↑(quS m d).length:Int)/\Dig (quS m d)/\Dig [(100000000:Int)]/\(0:Nat)<(quS m d).length/\(quS m d).length<=(500000:Nat)/\[(100000000:Int)].length<=(quS m d).length/\val [(100000000:Int)]<=val (quS m d))/\(↑(aa (val (quS m d) - val [(100000000:Int)]).toNat).length:Int)=(↑(aa (val (quS m d) - val [(100000000:Int)]).toNat).length:Int)/\(5:Int)=(5:Int)/\DwD (aa (val (quS m d) - val [(100000000:Int)]).toNat))/\((↑(quS m d).length:Int)=(↑(quS m d).length:Int)/\Dig (quS m d)/\Dig [(100000000:Int)]/\((0:Nat)<(quS m d).length\/(0:Nat) < [(100000000:Int)].length)/\(quS m d).length<=(400000:Nat)/\[(100000000:Int)].length<=(400000:Nat))/\((↑(aa (val (quS m d)+val [(100000000:Int)]).toNat).length:Int)=(↑(aa (val (quS m d)+val [(100000000:Int)]).toNat).length:Int)/\(5:Int)=(5:Int)/\DwD (aa (val (quS m d)+val [(100000000:Int)]).toNat))/\(val (aa (val (quS m d)+val [(100000000:Int)]).toNat)*(4294967296:Int) / PP != val (aa (val (quS m d) - val [(100000000:Int)]).toNat)*(4294967296:Int) / PP)=false)
def KL (m d:Int):AV:=(AV.agg [AV.int true IntKind.i64 (val (aa (val (quS m d) - val [(100000000:Int)]).toNat)*(4294967296:Int) / PP),AV.int true IntKind.i64 (IntKind.i64.wrap (val (aa (val (quS m d) - val [(100000000:Int)]).toNat)*(4294967296:Int) / PP+(1:Int)))])
def aaR (m d:Int):Hp:=⟨[],(0:Nat),70⟩
theorem afr (m d:Int):(run (cQu [(14,false),(19,false),(25,false),(55,false),(67,false)]) 300).call 76 (FK m d) hG0=some ⟨.p (MK m d),[⟨.tt,KL m d,aaR m d⟩]⟩:=by kernel_rfl
def Xr (m d:Int):Prop:=((m==(0:Int))=true)
def aaS (m d:Int):AV:=(AV.agg [AV.int false IntKind.i64 (Int.ofNat (0:Nat)),AV.int false IntKind.i64 (Int.ofNat (0:Nat))])
def aaT (m d:Int):Hp:=⟨[],(0:Nat),9⟩
theorem afs (m d:Int):(run (cQu [(14,true)]) 300).call 76 (FK m d) hG0=some ⟨.p (Xr m d),[⟨.tt,aaS m d,aaT m d⟩]⟩:=by kernel_rfl
def Xt (m d:Int):Prop:=((m==(0:Int))=false/\(m==d)=true)
def aaU (m d:Int):AV:=(AV.agg [AV.int false IntKind.i64 (Int.ofNat 4294967296),AV.int false IntKind.i64 (Int.ofNat 4294967296)])
def aaV (m d:Int):Hp:=⟨[],(0:Nat),13⟩
theorem aft (m d:Int):(run (cQu [(14,false),(19,true)]) 300).call 76 (FK m d) hG0=some ⟨.p (Xt m d),[⟨.tt,aaU m d,aaV m d⟩]⟩:=by kernel_rfl
def Xu (m d:Int):Prop:=((m==(0:Int))=false/\(m==d)=false/\(IntKind.i64.wrap ((3:Int)*m)==d)=true)
def aaW (m d:Int):AV:=(AV.agg [AV.int false IntKind.i64 (Int.ofNat 2147483648),AV.int false IntKind.i64 (Int.ofNat 2147483648)])
def aaX (m d:Int):Hp:=⟨[],(0:Nat),18⟩
theorem afu (m d:Int):(run (cQu [(14,false),(19,false),(25,true)]) 300).call 76 (FK m d) hG0=some ⟨.p (Xu m d),[⟨.tt,aaW m d,aaX m d⟩]⟩:=by kernel_rfl
end
end Go.Proofs.YtmnhhlnbfkfkaaaGreat.K
namespace Go.Dg
def RG:Int:=1570796326794896619231321691639751442098584716
def bF (m d:Int):Int:=RG*m / d
def nM (m d:Int):Int:=mD (bF m d*bF m d / PP) 200 2 (bF m d) (bF m d)
def lN (m d:Int):Int:=(nM m d - 100000000)*4294967296 / PP
structure SinG (m d:Int):Prop where
 t:0<bF m d*(bF m d*bF m d / PP) / PP / (2*(2+1))
 hi:nM m d<=2*PP
 far:100000000<nM m d
 same:(nM m d+100000000)*4294967296 / PP=lN m d
def iC (m d:Int):Int:=if m=0 then 0 else if m=d then 4294967296 else if 3*m=d then 2147483648 else lN m d
def iD (m d:Int):Int:=if m=0 then 0 else if m=d then 4294967296 else if 3*m=d then 2147483648 else lN m d+1
end Go.Dg
namespace Go.Proofs.YtmnhhlnbfkfkaaaGreat.K
open Go Go.Eng Go.Dg
noncomputable section
theorem Te:Dig [0,0,0,0,0,1]:=fun x hx=>by simp at hx; omega
theorem acK {m d:Int} (h0:0<m) (h1:m<=d):0<=bF m d/\bF m d<=1700000000000000000000000000000000000000000000:=by
 have hr:0<RG:=by decide
 refine ⟨Int.ediv_nonneg (Int.mul_nonneg (by omega) (by omega)) (by omega),Int.le_trans (b:=RG) (Int.ediv_le_of_le_mul (by omega) (Int.mul_le_mul_of_nonneg_left h1 (by omega))) (by decide)⟩
theorem FL {m d:Int} (h0:0<m) (h1:m<=d):quY m d=aa (bF m d).toNat/\val (quY m d)=bF m d:=by
 have e1:val (aa RGT.toNat)=RG:=dv (by decide)
 have e2:val (aa m.toNat)=m:=dv (by omega)
 have e3:val (aa d.toNat)=d:=dv (by omega)
 have e4:val (aa (RG*m).toNat)=RG*m:=dv (Int.mul_nonneg (by decide) (by omega))
 have e:quY m d=aa (bF m d).toNat:=by
  unfold quY
  rw [e1,e2,e4,e3]; rfl
 exact ⟨e,by rw [e]; exact dv (acK h0 h1).1⟩
theorem Xv {m d:Int} (h0:0<m) (h1:m<=d) (hs:0<=nM m d):quS m d=aa (nM m d).toNat/\val (quS m d)=nM m d:=by
 obtain ⟨e1,e2⟩:=FL h0 h1
 have e:quS m d=aa (nM m d).toNat:=by
  unfold quS
  show aa (mD (uB (quY m d)) 200 2 (val (quY m d)) (val (quY m d))).toNat=_
  unfold uB
  rw [e2]; rfl
 exact ⟨e,by rw [e]; exact dv hs⟩
theorem acL {m d:Int} (h0:0<m) (h1:m<=d) (g:SinG m d):SeD (quY m d):=by
 obtain ⟨e1,e2⟩:=FL h0 h1
 obtain ⟨y0,y1⟩:=acK h0 h1
 refine ⟨by rw [e1]; exact aH _,?_,by rw [e2]; exact y1,?_⟩
 .rw [e1]
  exact Nat.le_trans (ky y0 (Int.le_trans y1 (by decide))) (by decide)
 .have:=g.t
  unfold seT uB
  rw [e2]; exact this
theorem Tf {v:Int} (h0:0<=v) (h1:v<=3*PP):DwD (aa v.toNat):=by
 have p:=gQ
 refine ⟨aH _,Nat.le_trans (ky h0 (by omega)) (by decide),?_⟩
 rw [SI,dv h0]
 refine Int.lt_of_le_of_lt (b:=12884901888) (Int.ediv_le_of_le_mul p ?_) (by decide)
 have:(12884901888:Int)*PP=3*PP*4294967296:=by decide
 rw [this]
 exact Int.mul_le_mul_of_nonneg_right h1 (by decide)
theorem Tg {m d:Int} (g:SinG m d):0<=lN m d/\lN m d<=12884901888:=by
 have p:=gQ
 have:=g.far
 have:=g.hi
 refine ⟨Int.ediv_nonneg (Int.mul_nonneg (by omega) (by decide)) (by omega),Int.ediv_le_of_le_mul p ?_⟩
 have e:(12884901888:Int)*PP=3*PP*4294967296:=by decide
 rw [e]
 exact Int.mul_le_mul_of_nonneg_right (by omega) (by decide)
end
end Go.Proofs.YtmnhhlnbfkfkaaaGreat.K
namespace Go.Dg
def aaY (m d:Int):Bool:=decide (0<bF m d*(bF m d*bF m d / PP) / PP / (2*(2+1)))&&decide (nM m d<=2*PP)&&decide (100000000<nM m d)&&decide ((nM m d+100000000)*4294967296 / PP=lN m d)
theorem Xw {m d:Int} (h:aaY m d=true):SinG m d:=by
 simp only [aaY,Bool.and_eq_true,decide_eq_true_eq] at h
 exact ⟨h.1.1.1,h.1.1.2,h.1.2,h.2⟩
end Go.Dg
namespace Go.Ln
def ak (w:Nat) (f:Nat->Nat):Nat->Nat
 | 0=>0
 | n+1=>ak w f n+f n*2 ^ (w*n)
theorem kU (w:Nat) (f g:Nat->Nat) (n:Nat):ak w f n+ak w g n=ak w (fun i=>f i+g i) n:=by
 induction n with
 | zero=>rfl
 | succ n ih=>simp only [ak]; rw [<- ih]; grind
theorem jG (w k:Nat) (f:Nat->Nat) (n:Nat):k*ak w f n=ak w (fun i=>k*f i) n:=by
 induction n with
 | zero=>rfl
 | succ n ih=>simp only [ak]; rw [<- ih]; grind
theorem qM {w:Nat} {f:Nat->Nat} {n:Nat} (h:∀ i,i<n->f i<2 ^ w):ak w f n<2 ^ (w*n):=by
 induction n with
 | zero=>simp [ak]
 | succ n ih=>
  have h1:=ih (fun i hi=>h i (by omega))
  have h2:=h n (by omega)
  simp only [ak]
  have e:2 ^ (w*(n+1))=2 ^ w*2 ^ (w*n):=by rw [Nat.mul_succ,Nat.pow_add,Nat.mul_comm]
  rw [e]
  have h3:(f n+1)*2 ^ (w*n)<=2 ^ w*2 ^ (w*n):=Nat.mul_le_mul_right _ h2
  rw [Nat.add_mul] at h3
  omega
theorem iO {w:Nat} {f g:Nat->Nat} {n:Nat} (h:∀ i,i<n->f i=g i):ak w f n=ak w g n:=by
 induction n with
 | zero=>rfl
 | succ n ih=>
  simp only [ak]
  rw [ih (fun i hi=>h i (by omega)),h n (by omega)]
theorem OV {w:Nat} {f g:Nat->Nat} {n:Nat} (hf:∀ i,i<n->f i<2 ^ w) (hg:∀ i,i<n->g i<2 ^ w) (h:ak w f n=ak w g n):∀ i,i<n->f i=g i:=by
 induction n with
 | zero=>intro i hi; omega
 | succ n ih=>
  have a:=qM (fun i hi=>hf i (show i<n+1 by omega):∀ i,i<n->f i<2 ^ w)
  have b:=qM (fun i hi=>hg i (show i<n+1 by omega):∀ i,i<n->g i<2 ^ w)
  simp only [ak] at h
  have p:0<2 ^ (w*n):=Nat.two_pow_pos _
  have q:f n=g n:=by
   have h1:=congrArg (· / 2 ^ (w*n)) h
   simp only [Nat.add_mul_div_right _ _ p] at h1
   rw [Nat.div_eq_of_lt a,Nat.div_eq_of_lt b] at h1
   omega
  rw [q] at h
  intro i hi
  rcases Nat.lt_or_ge i n with h2|h2
  .exact ih (fun j hj=>hf j (by omega)) (fun j hj=>hg j (by omega)) (by omega) i h2
  .have:i=n:=by omega
   subst this; exact q
theorem OW {k a b c d:Nat} (ha:a<2 ^ k) (hc:c<2 ^ k):(a+b*2 ^ k) &&& (c+d*2 ^ k)=(a &&& c)+(b &&& d)*2 ^ k:=by
 apply Nat.eq_of_testBit_eq
 intro i
 have e:∀ x y:Nat,x+y*2 ^ k=2 ^ k*y+x:=fun x y=>by rw [Nat.add_comm,Nat.mul_comm]
 rw [Nat.testBit_and,e,e,e,Nat.testBit_two_pow_mul_add _ ha,Nat.testBit_two_pow_mul_add _ hc,Nat.testBit_two_pow_mul_add _ (Nat.and_lt_two_pow _ hc)]
 split
 .rw [Nat.testBit_and]
 .rw [Nat.testBit_and]
theorem Dz {w:Nat} {f g:Nat->Nat} {n:Nat} (hf:∀ i,i<n->f i<2 ^ w) (hg:∀ i,i<n->g i<2 ^ w):ak w f n &&& ak w g n=ak w (fun i=>f i &&& g i) n:=by
 induction n with
 | zero=>simp [ak]
 | succ n ih=>
  simp only [ak]
  rw [OW (qM fun i hi=>hf i (by omega)) (qM fun i hi=>hg i (by omega)),ih (fun i hi=>hf i (by omega)) (fun i hi=>hg i (by omega))]
def far (w n v e:Nat) (X E M K H:Nat):Bool:=Nat.beq ((((X+E) &&& M)+K) &&& H) H
theorem Ti {t v:Nat} (h:t<2 ^ (v+1)) (hb:t &&& 2 ^ v=2 ^ v):2 ^ v<=t:=by
 rw [<- hb]; exact Nat.and_le_left
theorem aaZ {w n v e:Nat} {x:Nat->Nat} {X E M K H:Nat} (hX:X=ak w x n) (hE:E=ak w (fun _=>e) n) (hM:M=ak w (fun _=>2 ^ v - 1) n) (hK:K=ak w (fun _=>2 ^ v - 2*e) n) (hH:H=ak w (fun _=>2 ^ v) n)
  (hx:∀ i,i<n->x i+e<2 ^ w) (hv:v+1<w) (he:0<e) (h:far w n v e X E M K H=true):∀ i,i<n->2*e<=(x i+e) % 2 ^ v:=by
 have h:=Nat.eq_of_beq_eq_true h
 have hw:2 ^ (v+1)<2 ^ w:=Nat.pow_lt_pow_right (by decide) hv
 have e2:2 ^ (v+1)=2*2 ^ v:=by rw [Nat.pow_succ,Nat.mul_comm]
 have p:0<2 ^ v:=Nat.two_pow_pos v
 subst hX hE hM hK hH
 rw [kU,Dz hx (fun i _=>by omega)] at h
 have em:∀ i,(x i+e) &&& (2 ^ v - 1)=(x i+e) % 2 ^ v:=fun i=>Nat.and_two_pow_sub_one_eq_mod ..
 have hz:∀ i,(x i+e) % 2 ^ v<2 ^ v:=fun i=>Nat.mod_lt _ p
 rw [iO (g:=fun i=>(x i+e) % 2 ^ v) (fun i _=>em i),kU,Dz (fun i _=>by have:=hz i; omega) (fun i _=>by omega)] at h
 have k:=OV (fun i _=>by
  have:((x i+e) % 2 ^ v+(2 ^ v - 2*e)) &&& 2 ^ v<=2 ^ v:=Nat.and_le_right
  omega) (fun i _=>by omega) h
 intro i hi
 have h1:=Ti (t:=(x i+e) % 2 ^ v+(2 ^ v - 2*e)) (by have:=hz i; omega) (k i hi)
 omega
theorem mE {w:Nat} (hw:0<w) {f:Nat->Nat} {n:Nat} (hf:∀ i,i<n->f i<2 ^ w) (i:Nat):(ak w f n).testBit i=(decide (i<w*n)&&(f (i / w)).testBit (i % w)):=by
 induction n with
 | zero=>simp [ak]
 | succ n ih=>
  have h1:=qM (fun j hj=>hf j (by omega):∀ j,j<n->f j<2 ^ w)
  simp only [ak]
  rw [Nat.add_comm,Nat.mul_comm,Nat.testBit_two_pow_mul_add _ h1,ih (fun j hj=>hf j (by omega))]
  by_cases h:i<w*n
  .have h2:i<w*(n+1):=by rw [Nat.mul_succ]; omega
   simp [h,h2]
  .rw [if_neg h]
   by_cases h2:i<w*(n+1)
   .have e1:i / w=n:=by
     apply Nat.div_eq_of_lt_le
     .rw [Nat.mul_comm]; omega
     .rw [Nat.mul_comm]; exact h2
    have e2:i % w=i - w*n:=by
     have:=Nat.div_add_mod i w
     rw [e1] at this
     omega
    rw [e1,e2]
    simp [h2]
   .have h3:w<=i - w*n:=by rw [Nat.mul_succ] at h2; omega
    have h4:(f n).testBit (i - w*n)=false:=Nat.testBit_lt_two_pow (Nat.lt_of_lt_of_le (hf n (by omega)) (Nat.pow_le_pow_right (by decide) h3))
    rw [h4]
    simp [h2]
theorem DC {w p:Nat} (hp:p<=w) (hw:0<w) {f:Nat->Nat} {n:Nat} (hf:∀ i,i<n->f i<2 ^ w):(ak w f n >>> p) &&& ak w (fun _=>2 ^ (w - p) - 1) n=ak w (fun i=>f i / 2 ^ p) n:=by
 have hd:∀ i,i<n->f i / 2 ^ p<2 ^ (w - p):=fun i hi=>by
  apply Nat.div_lt_of_lt_mul
  rw [<- Nat.pow_add,show p+(w - p)=w by omega]
  exact hf i hi
 have hle:2 ^ (w - p)<=2 ^ w:=Nat.pow_le_pow_right (by decide) (by omega)
 have pos:0<2 ^ (w - p):=Nat.two_pow_pos _
 apply Nat.eq_of_testBit_eq
 intro i
 rw [Nat.testBit_and,Nat.testBit_shiftRight,mE hw hf,mE hw (fun _ _=>by omega),mE hw (fun j hj=>Nat.lt_of_lt_of_le (hd j hj) hle)]
 have hm:=Nat.mod_lt i hw
 have hdm:=Nat.div_add_mod i w
 by_cases h:i<w*n
 .have hq:i / w<n:=Nat.div_lt_of_lt_mul h
  rw [Nat.testBit_two_pow_sub_one]
  by_cases h2:i % w<w - p
  .have e1:(p+i) / w=i / w:=by
    apply Nat.div_eq_of_lt_le
    .rw [Nat.mul_comm]; omega
    .rw [Nat.add_mul,Nat.mul_comm (i / w) w]; omega
   have e2:(p+i) % w=p+i % w:=by
    have:=Nat.div_add_mod (p+i) w
    rw [e1] at this
    omega
   have e3:p+i<w*n:=by
    have h3:w*(i / w+1)<=w*n:=Nat.mul_le_mul_left w hq
    rw [Nat.mul_add] at h3
    omega
   rw [e1,e2,Nat.testBit_div_two_pow,Nat.add_comm (i % w) p]
   simp [h,h2,e3]
  .have h4:(f (i / w) / 2 ^ p).testBit (i % w)=false:=Nat.testBit_lt_two_pow (Nat.lt_of_lt_of_le (hd _ hq) (Nat.pow_le_pow_right (by decide) (by omega)))
   rw [h4]
   simp [h,h2]
 .simp [h]
theorem DD (w:Nat) (f:Nat->Nat) (m n:Nat):ak w f (m+n)=ak w f m+ak w (fun i=>f (m+i)) n*2 ^ (w*m):=by
 induction n with
 | zero=>simp [ak]
 | succ n ih=>
  rw [<- Nat.add_assoc]
  simp only [ak]
  rw [ih,Nat.mul_add,Nat.pow_add]
  grind
theorem OX {w:Nat} {f g:Nat->Nat} {n:Nat} (h:∀ i,i<n->g i<=f i):ak w f n - ak w g n=ak w (fun i=>f i - g i) n:=by
 have e:ak w (fun i=>f i - g i) n+ak w g n=ak w f n:=by
  rw [kU]
  exact iO fun i hi=>by have:=h i hi; omega
 omega
def wB (w:Nat):Nat->Nat
 | 0=>1
 | k+1=>wB w k+wB w k*2 ^ (w*2 ^ k)
theorem zF (w:Nat):∀ k,wB w k=ak w (fun _=>1) (2 ^ k)
 | 0=>by simp [wB,ak]
 | k+1=>by rw [wB,zF w k,Nat.pow_succ,Nat.mul_comm (2 ^ k) 2,Nat.two_mul,DD]
theorem qN (w c:Nat) (n:Nat):ak w (fun _=>c) n=c*ak w (fun _=>1) n:=by
 rw [jG]; simp
theorem DF (w c j:Nat):∀ n,ak w (fun i=>if i=j then c else 0) n=if j<n then c*2 ^ (w*j) else 0
 | 0=>by simp [ak]
 | n+1=>by
  simp only [ak]
  rw [DF w c j n]
  by_cases h:j<n
  .simp [h,show j<n+1 by omega,show n≠j by omega]
  .by_cases h2:n=j
   .subst h2; simp
   .simp [h,h2,show ¬ j<n+1 by omega]
end Go.Ln
namespace Go.Sn
def sum (f:Nat->Rat):Nat->Rat
 | 0=>0
 | n+1=>sum f n+f n
theorem l9 (f g:Nat->Rat) (n:Nat):sum (fun i=>f i+g i) n=sum f n+sum g n:=by
 induction n with
 | zero=>simp only [sum]; grind
 | succ n ih=>simp only [sum]; rw [ih]; grind
theorem FM (f g:Nat->Rat) (n:Nat):sum (fun i=>f i - g i) n=sum f n - sum g n:=by
 induction n with
 | zero=>simp only [sum]; grind
 | succ n ih=>simp only [sum]; rw [ih]; grind
theorem dM (k:Rat) (f:Nat->Rat) (n:Nat):sum (fun i=>k*f i) n=k*sum f n:=by
 induction n with
 | zero=>simp [sum]
 | succ n ih=>simp only [sum]; rw [ih]; grind
theorem dR {f g:Nat->Rat} {n:Nat} (h:∀ i,i<n->f i=g i):sum f n=sum g n:=by
 induction n with
 | zero=>rfl
 | succ n ih=>simp only [sum]; rw [ih (fun i hi=>h i (by omega)),h n (by omega)]
theorem OY (f:Nat->Rat) (n:Nat):sum f (n+1)=f 0+sum (fun i=>f (i+1)) n:=by
 induction n with
 | zero=>simp only [sum]; grind
 | succ n ih=>rw [sum,ih]; simp only [sum]; grind
theorem xR {f g:Nat->Rat} {n:Nat} (h:∀ i,i<n->f i<=g i):sum f n<=sum g n:=by
 induction n with
 | zero=>simp [sum]
 | succ n ih=>
  have h1:=ih (fun i hi=>h i (by omega))
  have h2:=h n (by omega)
  simp only [sum]; grind
theorem KM {f:Nat->Rat} {n:Nat} (h:∀ i,i<n->0<=f i):0<=sum f n:=by
 induction n with
 | zero=>simp [sum]
 | succ n ih=>
  have h1:=ih (fun i hi=>h i (by omega))
  have h2:=h n (by omega)
  simp only [sum]; grind
theorem qO {f:Nat->Rat} {m n:Nat} (hmn:m<=n) (h:∀ i,i<n->0<=f i):sum f m<=sum f n:=by
 induction n with
 | zero=>
  have:m=0:=by omega
  subst this; simp [sum]
 | succ n ih=>
  rcases Nat.lt_or_ge n m with h1|h1
  .have:m=n+1:=by omega
   subst this; grind
  .have h2:=ih h1 (fun i hi=>h i (by omega))
   have h3:=h n (by omega)
   simp only [sum]; grind
theorem BJ {f g:Nat->Rat} {m n:Nat} (hmn:m<=n) (h:∀ i,i<n->-g i<=f i/\f i<=g i):-(sum g n - sum g m)<=sum f n - sum f m/\sum f n - sum f m<=sum g n - sum g m:=by
 induction n with
 | zero=>
  have:m=0:=by omega
  subst this; grind
 | succ n ih=>
  rcases Nat.lt_or_ge n m with h1|h1
  .have:m=n+1:=by omega
   subst this; grind
  .obtain ⟨h2,h3⟩:=ih h1 (fun i hi=>h i (by omega))
   obtain ⟨h4,h5⟩:=h n (by omega)
   simp only [sum]; grind
def e (x:Rat):Nat->Rat
 | 0=>1
 | n+1=>e x n*x / ((n+1:Nat):Rat)
theorem nN (n:Nat):(0:Rat)<((n+1:Nat):Rat):=by exact_mod_cast Nat.succ_pos n
theorem iE (x:Rat) (n:Nat):((n+1:Nat):Rat)*e x (n+1)=x*e x n:=by
 have h:=nN n
 simp only [e]
 grind
theorem qP {x:Rat} (hx:0<=x) (n:Nat):0<=e x n:=by
 induction n with
 | zero=>simp only [e]; grind
 | succ n ih=>
  have h:=nN n
  have h1:=Rat.mul_nonneg hx ih
  rw [<- iE] at h1
  by_cases h2:0<=e x (n+1)
  .exact h2
  .have h3:=Rat.mul_pos h (show (0:Rat) < -e x (n+1) by grind)
   grind
def B (a b:Rat) (n:Nat):Rat:=sum (fun k=>e a k*e b (n - k)) (n+1)
theorem aa0 (a b:Rat) (n:Nat):((n+1:Nat):Rat)*B a b (n+1)=(a+b)*B a b n:=by
 have e1:((n+1:Nat):Rat)*B a b (n+1)=sum (fun k=>(k:Rat)*e a k*e b (n+1 - k)) (n+2)+sum (fun k=>e a k*(((n+1 - k:Nat):Rat)*e b (n+1 - k))) (n+2):=by
  unfold B
  rw [<- dM,<- l9]
  apply dR
  intro k hk
  have:((n+1:Nat):Rat)=(k:Rat)+((n+1 - k:Nat):Rat):=by
   rw [show (n+1:Nat)=k+(n+1 - k) by omega]
   push_cast
   simp
  rw [this]
  grind
 have e2:sum (fun k=>(k:Rat)*e a k*e b (n+1 - k)) (n+2)=a*B a b n:=by
  rw [OY]
  unfold B
  rw [<- dM]
  have z:((0:Nat):Rat)*e a 0*e b (n+1 - 0)=0:=by simp
  rw [z,Rat.zero_add]
  apply dR
  intro k hk
  show ((k+1:Nat):Rat)*e a (k+1)*e b (n+1 - (k+1))=_
  rw [iE,show n+1 - (k+1)=n - k by omega]
  grind
 have e3:sum (fun k=>e a k*(((n+1 - k:Nat):Rat)*e b (n+1 - k))) (n+2)=b*B a b n:=by
  rw [sum]
  unfold B
  rw [<- dM]
  have z:e a (n+1)*(((n+1 - (n+1):Nat):Rat)*e b (n+1 - (n+1)))=0:=by simp
  rw [z,Rat.add_zero]
  apply dR
  intro k hk
  rw [show n+1 - k=(n - k)+1 by omega,iE]
  grind
 rw [e1,e2,e3]
 grind
theorem acM (a b:Rat) (n:Nat):B a b n=e (a+b) n:=by
 induction n with
 | zero=>simp only [B,sum,Nat.sub_self,e]; grind
 | succ n ih=>
  have h:=aa0 a b n
  have h2:=iE (a+b) n
  have p:=nN n
  rw [ih] at h
  rw [<- h2] at h
  generalize ((n+1:Nat):Rat)=k at *
  have h3:k⁻¹*(k*B a b (n+1))=k⁻¹*(k*e (a+b) (n+1)):=by rw [h]
  have h4:k⁻¹*k=1:=Rat.inv_mul_cancel k (by grind)
  rw [<- Rat.mul_assoc,<- Rat.mul_assoc,h4,Rat.one_mul,Rat.one_mul] at h3
  exact h3
def Z (c:Nat->Rat) (N:Nat) (x:Rat):Rat:=sum (fun n=>c n*e x n) N
def one (_:Nat):Rat:=1
def T (c:Nat->Rat) (a b:Rat) (N:Nat):Rat:=sum (fun p=>e a p*sum (fun q=>c (p+q)*e b q) (N - p)) N
theorem Tj (c:Nat->Rat) (a b:Rat) (N:Nat):T c a b N=Z c N (a+b):=by
 induction N with
 | zero=>rfl
 | succ N ih=>
  have h:T c a b (N+1)=T c a b N+c N*B a b N:=by
   have h1:sum (fun p=>e a p*sum (fun q=>c (p+q)*e b q) (N+1 - p)) N=sum (fun p=>e a p*sum (fun q=>c (p+q)*e b q) (N - p)) N+c N*sum (fun p=>e a p*e b (N - p)) N:=by
    rw [<- dM,<- l9]
    apply dR
    intro p hp
    rw [show N+1 - p=(N - p)+1 by omega,sum,show p+(N - p)=N by omega]
    grind
   unfold T B
   rw [sum,h1,show N+1 - N=0+1 by omega,sum]
   simp only [sum,Nat.sub_self,Nat.add_zero]
   grind
  rw [h,ih,acM]
  rfl
def Rc (c:Nat->Rat) (a b:Rat) (N:Nat):Rat:=sum (fun p=>e a p*sum (fun q=>c (p+q)*e b q) N) N
def lQ (N:Nat) (x:Rat):Rat:=Z one (2*N) x - Z one N x
theorem Tk {a b:Rat} (ha:0<=a) (hb:0<=b) (N:Nat):Rc one a b N<=Z one (2*N) (a+b):=by
 rw [<- Tj]
 unfold T Rc
 have nn:∀ M,0<=sum (fun q=>one q*e b q) M:=fun M=>KM fun i _=>by
  have:=qP hb i
  simp only [one]; grind
 have h1:sum (fun p=>e a p*sum (fun q=>one (p+q)*e b q) (2*N - p)) N<=sum (fun p=>e a p*sum (fun q=>one (p+q)*e b q) (2*N - p)) (2*N):=
  qO (by omega) fun p _=>Rat.mul_nonneg (qP ha p) (nn _)
 have h2:sum (fun p=>e a p*sum (fun q=>one (p+q)*e b q) N) N<=sum (fun p=>e a p*sum (fun q=>one (p+q)*e b q) (2*N - p)) N:=by
  apply xR
  intro p hp
  apply Rat.mul_le_mul_of_nonneg_left _ (qP ha p)
  exact qO (by omega) fun q _=>by
   have:=qP hb q
   simp only [one]; grind
 grind
theorem ML {c:Nat->Rat} (hc:∀ n,-1<=c n/\c n<=1) {a b:Rat} (ha:0<=a) (hb:0<=b) (N:Nat):-lQ N (a+b)<=Rc c a b N - Z c N (a+b)/\Rc c a b N - Z c N (a+b)<=lQ N (a+b):=by
 have hT:-(Rc one a b N - T one a b N)<=Rc c a b N - T c a b N/\Rc c a b N - T c a b N<=Rc one a b N - T one a b N:=by
  have key:∀ p,p<N->-(e a p*sum (fun q=>one (p+q)*e b q) N - e a p*sum (fun q=>one (p+q)*e b q) (N - p))<=e a p*sum (fun q=>c (p+q)*e b q) N - e a p*sum (fun q=>c (p+q)*e b q) (N - p) /\
    e a p*sum (fun q=>c (p+q)*e b q) N - e a p*sum (fun q=>c (p+q)*e b q) (N - p)<=e a p*sum (fun q=>one (p+q)*e b q) N - e a p*sum (fun q=>one (p+q)*e b q) (N - p):=by
   intro p hp
   have hb2:∀ i,i<N->-(one (p+i)*e b i)<=c (p+i)*e b i/\c (p+i)*e b i<=one (p+i)*e b i:=by
    intro i _
    have h1:=qP hb i
    have h2:=hc (p+i)
    have h3:=Rat.mul_nonneg (a:=c (p+i)+1) (by grind) h1
    have h4:=Rat.mul_nonneg (a:=1 - c (p+i)) (by grind) h1
    simp only [one]; grind
   obtain ⟨h1,h2⟩:=BJ (f:=fun q=>c (p+q)*e b q) (g:=fun q=>one (p+q)*e b q) (Nat.sub_le N p) hb2
   have h3:=qP ha p
   have h4:=Rat.mul_le_mul_of_nonneg_left h1 h3
   have h5:=Rat.mul_le_mul_of_nonneg_left h2 h3
   grind
  have f1:∀ d:Nat->Rat,Rc d a b N - T d a b N=sum (fun p=>e a p*sum (fun q=>d (p+q)*e b q) N - e a p*sum (fun q=>d (p+q)*e b q) (N - p)) N:=by
   intro d
   unfold Rc T
   rw [<- FM]
  rw [f1,f1]
  constructor
  .have:=xR (f:=fun p=>-1*(e a p*sum (fun q=>one (p+q)*e b q) N - e a p*sum (fun q=>one (p+q)*e b q) (N - p))) (g:=fun p=>e a p*sum (fun q=>c (p+q)*e b q) N - e a p*sum (fun q=>c (p+q)*e b q) (N - p)) (n:=N) (fun p hp=>by have:=(key p hp).1; grind)
   rw [dM] at this
   grind
  .exact xR fun p hp=>(key p hp).2
 rw [Tj,Tj] at hT
 have:=Tk ha hb N
 unfold lQ
 grind
def sF (n:Nat):Rat:=match n % 4 with|1=>1|3=>-1|_=>0
def cF (n:Nat):Rat:=match n % 4 with|0=>1|2=>-1|_=>0
theorem uC (n:Nat):n % 4=0\/n % 4=1\/n % 4=2\/n % 4=3:=by omega
theorem Tn (n:Nat):-1<=sF n/\sF n<=1:=by
 unfold sF
 rcases uC n with h|h|h|h <;> rw [h] <;> decide
theorem Tp (n:Nat):-1<=cF n/\cF n<=1:=by
 unfold cF
 rcases uC n with h|h|h|h <;> rw [h] <;> decide
theorem aa1 (p q:Nat):sF (p+q)=sF p*cF q+cF p*sF q:=by
 have h:(p+q) % 4=(p % 4+q % 4) % 4:=by omega
 unfold sF cF
 rw [h]
 rcases uC p with h1|h1|h1|h1 <;> rcases uC q with h2|h2|h2|h2 <;> rw [h1,h2] <;> simp <;> grind
theorem Tq (p q:Nat):cF (p+q)=cF p*cF q - sF p*sF q:=by
 have h:(p+q) % 4=(p % 4+q % 4) % 4:=by omega
 unfold sF cF
 rw [h]
 rcases uC p with h1|h1|h1|h1 <;> rcases uC q with h2|h2|h2|h2 <;> rw [h1,h2] <;> simp <;> grind
def S (N:Nat) (x:Rat):Rat:=Z sF N x
def C (N:Nat) (x:Rat):Rat:=Z cF N x
theorem afv (a b:Rat) (N:Nat):Rc sF a b N=S N a*C N b+C N a*S N b:=by
 have h:∀ p,e a p*sum (fun q=>sF (p+q)*e b q) N=C N b*(sF p*e a p)+S N b*(cF p*e a p):=by
  intro p
  have h1:sum (fun q=>sF (p+q)*e b q) N=sF p*C N b+cF p*S N b:=by
   unfold C S Z
   rw [<- dM,<- dM,<- l9]
   apply dR
   intro q _
   rw [aa1]; grind
  rw [h1]; grind
 unfold Rc
 rw [dR (fun p _=>h p),l9,dM,dM]
 unfold S C Z
 grind
theorem afw (a b:Rat) (N:Nat):Rc cF a b N=C N a*C N b - S N a*S N b:=by
 have h:∀ p,e a p*sum (fun q=>cF (p+q)*e b q) N=C N b*(cF p*e a p) + -S N b*(sF p*e a p):=by
  intro p
  have h1:sum (fun q=>cF (p+q)*e b q) N=cF p*C N b + -sF p*S N b:=by
   unfold C S Z
   rw [<- dM,<- dM,<- l9]
   apply dR
   intro q _
   rw [Tq]; grind
  rw [h1]; grind
 unfold Rc
 rw [dR (fun p _=>h p),l9,dM,dM]
 unfold S C Z
 grind
theorem FN {a b:Rat} (ha:0<=a) (hb:0<=b) (N:Nat):-lQ N (a+b)<=S N a*C N b+C N a*S N b - S N (a+b)/\S N a*C N b+C N a*S N b - S N (a+b)<=lQ N (a+b):=by
 have:=ML Tn ha hb N
 rw [afv] at this
 exact this
theorem MN {a b:Rat} (ha:0<=a) (hb:0<=b) (N:Nat):-lQ N (a+b)<=C N a*C N b - S N a*S N b - C N (a+b)/\C N a*C N b - S N a*S N b - C N (a+b)<=lQ N (a+b):=by
 have:=ML Tp ha hb N
 rw [afw] at this
 exact this
theorem Xx {x y:Rat} (hx:0<=x) (h:x<=y) (n:Nat):e x n<=e y n:=by
 induction n with
 | zero=>simp only [e]; grind
 | succ n ih=>
  have p:=nN n
  have h1:=iE x n
  have h2:=iE y n
  have h3:x*e x n<=y*e y n:=by
   have a:=Rat.mul_le_mul_of_nonneg_left ih hx
   have b:=Rat.mul_le_mul_of_nonneg_right h (qP (show 0<=y by grind) n)
   grind
  rw [<- h1,<- h2] at h3
  exact Rat.le_of_mul_le_mul_left h3 p
theorem acN {x y:Rat} (hx:0<=x) (h:x<=y) (n:Nat):e y (n+1) - e x (n+1)<=(y - x)*e y n:=by
 have hy:0<=y:=by grind
 induction n with
 | zero=>
  have h1:=iE x 0
  have h2:=iE y 0
  simp only [e] at *
  grind
 | succ n ih=>
  have p:=nN (n+1)
  have h1:=iE x (n+1)
  have h2:=iE y (n+1)
  have h3:=iE y n
  have e0:=qP hy n
  have m0:0<=(y - x)*e y n:=Rat.mul_nonneg (by grind) e0
  have a:=Rat.mul_le_mul_of_nonneg_left ih hx
  have b:=Rat.mul_le_mul_of_nonneg_right h m0
  have c:((n+1+1:Nat):Rat)=((n+1:Nat):Rat)+1:=by push_cast; rfl
  refine Rat.le_of_mul_le_mul_left (c:=((n+1+1:Nat):Rat)) ?_ p
  have g1:((n+1+1:Nat):Rat)*(e y (n+1+1) - e x (n+1+1))=y*e y (n+1) - x*e x (n+1):=by rw [<- h1,<- h2]; grind
  have g2:((n+1+1:Nat):Rat)*((y - x)*e y (n+1))=(y - x)*(y*e y n)+(y - x)*e y (n+1):=by rw [c,<- h3]; grind
  rw [g1,g2]
  grind
theorem Tt {c:Nat->Rat} (hc:∀ n,-1<=c n/\c n<=1) {x y:Rat} (hx:0<=x) (h:x<=y) (N:Nat):-((y - x)*Z one N y)<=Z c (N+1) y - Z c (N+1) x/\Z c (N+1) y - Z c (N+1) x<=(y - x)*Z one N y:=by
 have key:∀ n,-((y - x)*e y n)<=c (n+1)*e y (n+1) - c (n+1)*e x (n+1)/\c (n+1)*e y (n+1) - c (n+1)*e x (n+1)<=(y - x)*e y n:=by
  intro n
  have h1:=acN hx h n
  have h2:=Xx hx h (n+1)
  obtain ⟨h3,h4⟩:=hc (n+1)
  have h5:=Rat.mul_nonneg (a:=c (n+1)+1) (b:=e y (n+1) - e x (n+1)) (by grind) (by grind)
  have h6:=Rat.mul_nonneg (a:=1 - c (n+1)) (b:=e y (n+1) - e x (n+1)) (by grind) (by grind)
  grind
 induction N with
 | zero=>simp only [Z,sum,e]; grind
 | succ N ih=>
  have h1:=key N
  unfold Z at *
  simp only [sum,one] at *
  grind
theorem rT {x y:Rat} (hx:0<=x) (h:x<=y) (N:Nat):0<=lQ N x/\lQ N x<=lQ N y:=by
 unfold lQ Z
 have h0:=qO (f:=fun n=>one n*e x n) (show N<=2*N by omega) (fun i _=>by have:=qP hx i; simp only [one]; grind)
 have:=BJ (f:=fun n=>one n*e x n) (g:=fun n=>one n*e y n) (show N<=2*N by omega) (fun i _=>by
  have h1:=qP hx i
  have h2:=Xx hx h i
  simp only [one]; grind)
 grind
theorem DI {x y:Rat} (hx:0<=x) (h:x<=y) (N:Nat):Z one N x<=Z one N y:=by
 unfold Z
 exact xR fun i _=>by
  have:=Xx hx h i
  simp only [one]; grind
theorem Z5:Z one 64 (8 / 5)<=5:=by decide +kernel
theorem acO:lQ 64 (8 / 5)*(2:Rat) ^ 230<=1:=by decide +kernel
end Go.Sn
namespace Go.Sn
open Go.Dg
def hp:Rat:=15707963267948966192313216916397514420985846996875529104874722961539082 / 10000000000000000000000000000000000000000000000000000000000000000000000
def tru (q:Rat):Rat:=S 64 (hp*q)
def dl:Rat:=1 / 34359738368
def Tu (q:Rat) (k:Int):Prop:=(k:Rat)+dl<=4294967296*tru q/\4294967296*tru q<=(k:Rat)+1 - dl
def pT (sq y:Int):Nat->Int
 | 0=>y
 | j+1=>pT sq y j*sq / PP / ((2*(j:Int)+2)*(2*(j:Int)+2+1))
def pS (sq y:Int):Nat->Int
 | 0=>0
 | j+1=>match decide (j % 2=0) with|true=>pS sq y j+pT sq y j|false=>pS sq y j - pT sq y j
theorem Xy {sq y:Int} {j:Nat} (h:pT sq y j=0):∀ n,j<=n->pT sq y n=0:=by
 intro n hn
 induction n with
 | zero=>
  have:j=0:=by omega
  subst this; exact h
 | succ n ih=>
  rcases Nat.lt_or_ge n j with h1|h1
  .have:j=n+1:=by omega
   subst this; exact h
  .rw [pT,ih h1]; simp
theorem MO {sq y:Int} {j:Nat} (h:pT sq y j=0):∀ n,j<=n->pS sq y n=pS sq y j:=by
 intro n hn
 induction n with
 | zero=>
  have:j=0:=by omega
  subst this; rfl
 | succ n ih=>
  rcases Nat.lt_or_ge n j with h1|h1
  .have:j=n+1:=by omega
   subst this; rfl
  .rw [pS,Xy h n h1,ih h1]
   split <;> omega
theorem MP {sq y:Int}:∀ (n j:Nat),mD sq n (2*(j:Int)+2) (pT sq y j) (pS sq y (j+1))=pS sq y (j+1+n)
 | 0,_=>rfl
 | n+1,j=>by
  by_cases h:pT sq y (j+1)=0
  .rw [Jc (by exact h),MO h (j+1+(n+1)) (by omega)]
  .rw [xP (by exact h)]
   have ih:=MP (sq:=sq) (y:=y) n (j+1)
   rw [show j+1+(n+1)=j+1+1+n by omega,<- ih]
   have e1:2*(j:Int)+2+2=2*((j+1:Nat):Int)+2:=by push_cast; omega
   rw [e1]
   show mD sq n _ (pT sq y (j+1)) _=_
   congr 1
   rw [pS]
   show _=(match decide ((j+1) % 2=0) with|true=>pS sq y (j+1)+pT sq y (j+1)|false=>pS sq y (j+1) - pT sq y (j+1))
   by_cases hj:(j+1) % 2=0
   .rw [decide_eq_true hj,decide_eq_false (show ¬(2*(j:Int)+2) % 4=2 by omega)]; rfl
   .rw [decide_eq_false hj,decide_eq_true (show (2*(j:Int)+2) % 4=2 by omega)]; rfl
theorem qQ {sq y:Int} (hs0:0<=sq) (hs:sq<=3*PP) (hy:0<=y):∀ j,0<=pT sq y j/\2*pT sq y (j+1)<=pT sq y j:=by
 intro j
 have key:∀ j,0<=pT sq y j->0<=pT sq y (j+1)/\2*pT sq y (j+1)<=pT sq y j:=by
  intro j h
  have:=Sv (i:=2*(j:Int)+2) hs0 hs h (by omega)
  exact this
 have nn:∀ j,0<=pT sq y j:=by
  intro j
  induction j with
  | zero=>exact hy
  | succ j ih=>exact (key j ih).1
 exact ⟨nn j,(key j (nn j)).2⟩
theorem acP {sq y:Int} (hs0:0<=sq) (hs:sq<=3*PP) (hy:0<=y):∀ j:Nat,y - pT sq y 1<=pS sq y (2*j+2)/\pS sq y (2*j+2)+pT sq y (2*j+2)<=y:=by
 intro j
 induction j with
 | zero=>
  have h1:0<=pT sq y 1/\2*pT sq y 2<=pT sq y 1:=qQ hs0 hs hy 1
  have e:pS sq y 2=0+y - pT sq y 1:=rfl
  show y - pT sq y 1<=pS sq y 2/\pS sq y 2+pT sq y 2<=y
  have h2:=qQ hs0 hs hy 2
  omega
 | succ j ih=>
  have h1:=qQ hs0 hs hy (2*j+2)
  have h2:=qQ hs0 hs hy (2*j+3)
  have h3:=qQ hs0 hs hy (2*j+4)
  have e1:pS sq y (2*j+2+1)=pS sq y (2*j+2)+pT sq y (2*j+2):=by rw [pS,decide_eq_true (by omega)]
  have e2:pS sq y (2*j+2+1+1)=pS sq y (2*j+2+1) - pT sq y (2*j+2+1):=by rw [pS,decide_eq_false (by omega)]
  show y - pT sq y 1<=pS sq y (2*j+2+1+1)/\pS sq y (2*j+2+1+1)+pT sq y (2*j+4)<=y
  have e3:pT sq y (2*j+2+1)=pT sq y (2*j+3):=rfl
  have e4:pT sq y (2*j+3+1)=pT sq y (2*j+4):=rfl
  have e5:pT sq y (2*j+2+1)=pT sq y (2*j+3):=rfl
  omega
def U:Rat:=1000000000000000000000000000000000000000000000
theorem OZ:((PP:Int):Rat)=U:=by decide
theorem FO (a b:Int) (hb:0<b):((a / b:Int):Rat)*(b:Rat)<=(a:Rat):=by
 have:=Int.ediv_mul_le a (b:=b) (by omega)
 exact_mod_cast this
theorem FP (a b:Int) (hb:0<b):(a:Rat)<(((a / b:Int):Rat)+1)*(b:Rat):=by
 have:=Int.lt_ediv_add_one_mul_self a hb
 exact_mod_cast this
theorem step {U x p q t t' k a r:Rat} (hU:0<U) (x0:0<=x) (x1:x<=8 / 5) (nj:0<=p) (pyr:p<=x*U) (s0:0<=q) (i1:p<=U*t) (i2:U*t<=p+5) (sa:q*U<=x*x*U*U) (sb:x*x*U*U<(q+1)*U)
  (ta:a*U<=p*q) (tb:p*q<(a+1)*U) (ua:r*k<=a) (ub:a<(r+1)*k) (hk:6<=k) (e3:k*t'=x*x*t) (e4:0<=t):r<=U*t'/\U*t'<=r+5:=by
 have q1:q<=x*x*U:=Rat.le_of_mul_le_mul_right (c:=U) (by grind) hU
 have q2:x*x*U<q+1:=by
  apply Rat.not_le.1
  intro h
  have:=Rat.mul_le_mul_of_nonneg_right h (show 0<=U by grind)
  grind
 have x2:x*x<=64 / 25:=by
  have a:=Rat.mul_le_mul_of_nonneg_left x1 x0
  grind
 have xx0:0<=x*x:=Rat.mul_nonneg x0 x0
 have a1:a<=x*x*(U*t):=by
  refine Rat.le_of_mul_le_mul_right (c:=U) ?_ hU
  have h1:=Rat.mul_le_mul_of_nonneg_left q1 nj
  have h2:=Rat.mul_le_mul_of_nonneg_right i1 (show 0<=x*x*U from Rat.mul_nonneg xx0 (by grind))
  grind
 have a2:x*x*(U*t)<a+1+8 / 5+64 / 5:=by
  have h1:=Rat.mul_le_mul_of_nonneg_left i2 xx0
  have h2:x*x*p*U<=p*q+p:=by
   have:=Rat.mul_le_mul_of_nonneg_left (show x*x*U<=q+1 by grind) nj
   grind
  have h3:x*x*p*U<(a+1+8 / 5)*U:=by
   have:=Rat.mul_le_mul_of_nonneg_right x1 (show 0<=U by grind)
   grind
  have h4:x*x*p<a+1+8 / 5:=by
   apply Rat.not_le.1
   intro h
   have:=Rat.mul_le_mul_of_nonneg_right h (show 0<=U by grind)
   grind
  grind
 have hk0:0<k:=by grind
 constructor
 .refine Rat.le_of_mul_le_mul_right (c:=k) ?_ hk0
  have:U*t'*k=x*x*(U*t):=by grind
  grind
 .refine Rat.le_of_mul_le_mul_right (c:=k) ?_ hk0
  have:U*t'*k=x*x*(U*t):=by grind
  grind
theorem MQ {y:Int} (h0:0<=y) (h1:y*10<=16*PP):∀ j:Nat,(pT (y*y / PP) y j:Rat)<=U*e ((y:Rat) / U) (2*j+1)/\U*e ((y:Rat) / U) (2*j+1)<=(pT (y*y / PP) y j:Rat)+5:=by
 have hU:(0:Rat)<U:=by decide
 have hP:0<PP:=gQ
 have y0:(0:Rat)<=(y:Rat):=by exact_mod_cast h0
 have y1:(y:Rat)*10<=16*U:=by rw [<- OZ]; exact_mod_cast h1
 have hx:(y:Rat) / U*U=(y:Rat):=by grind
 have x0:0<=(y:Rat) / U:=by
  refine Rat.le_of_mul_le_mul_right (c:=U) ?_ hU
  rw [hx]; grind
 have x1:(y:Rat) / U<=8 / 5:=by
  refine Rat.le_of_mul_le_mul_right (c:=U) ?_ hU
  rw [hx]; grind
 have s0:0<=y*y / PP:=Int.ediv_nonneg (Int.mul_nonneg h0 h0) (by omega)
 have s1:y*y / PP<=3*PP:=by
  refine Int.ediv_le_of_le_mul hP ?_
  have a:y*10*(y*10)<=16*PP*(16*PP):=Int.mul_le_mul h1 h1 (by omega) (by omega)
  have b:0<=PP*PP:=Int.mul_nonneg (by omega) (by omega)
  grind
 have sa:=FO (y*y) PP hP
 have sb:=FP (y*y) PP hP
 rw [OZ] at sa sb
 have ey:((y*y:Int):Rat)=(y:Rat) / U*((y:Rat) / U)*U*U:=by
  push_cast
  rw [<- hx]; grind
 rw [ey] at sa sb
 generalize (y:Rat) / U=x at *
 intro j
 induction j with
 | zero=>
  have e1:e x (2*0+1)=x:=by simp only [e]; grind
  rw [e1]
  show (y:Rat)<=U*x/\U*x<=(y:Rat)+5
  grind
 | succ j ih=>
  obtain ⟨i1,i2⟩:=ih
  have nn:=(qQ s0 s1 h0 j).1
  have py:pT (y*y / PP) y j<=y:=by
   clear i1 i2 nn
   induction j with
   | zero=>exact Int.le_refl _
   | succ j ih=>
    have a:=qQ s0 s1 h0 j
    have b:=qQ s0 s1 h0 (j+1)
    omega
  have nj:(0:Rat)<=(pT (y*y / PP) y j:Rat):=by exact_mod_cast nn
  have pyr:(pT (y*y / PP) y j:Rat)<=x*U:=by rw [hx]; exact_mod_cast py
  have s0r:(0:Rat)<=((y*y / PP:Int):Rat):=by exact_mod_cast s0
  have hk:6<=(2*(j:Int)+2)*(2*(j:Int)+2+1):=Int.mul_le_mul (a:=2) (b:=3) (by omega) (by omega) (by decide) (by omega)
  have ta:=FO (pT (y*y / PP) y j*(y*y / PP)) PP hP
  have tb:=FP (pT (y*y / PP) y j*(y*y / PP)) PP hP
  have ua:=FO (pT (y*y / PP) y j*(y*y / PP) / PP) ((2*(j:Int)+2)*(2*(j:Int)+2+1)) (by omega)
  have ub:=FP (pT (y*y / PP) y j*(y*y / PP) / PP) ((2*(j:Int)+2)*(2*(j:Int)+2+1)) (by omega)
  have hkr:(6:Rat)<=(((2*(j:Int)+2)*(2*(j:Int)+2+1):Int):Rat):=by exact_mod_cast hk
  have e3:(((2*(j:Int)+2)*(2*(j:Int)+2+1):Int):Rat)*e x (2*j+3)=x*x*e x (2*j+1):=by
   have a:=iE x (2*j+1)
   have b:=iE x (2*j+2)
   have c:(((2*(j:Int)+2)*(2*(j:Int)+2+1):Int):Rat)=((2*j+1+1:Nat):Rat)*((2*j+2+1:Nat):Rat):=by push_cast; grind
   rw [c,Rat.mul_assoc,show 2*j+3=2*j+2+1 by omega,b]
   have:((2*j+1+1:Nat):Rat)*(x*e x (2*j+2))=x*(((2*j+1+1:Nat):Rat)*e x (2*j+1+1)):=by grind
   rw [this,a]; grind
  rw [OZ] at ta tb
  show ((pT (y*y / PP) y j*(y*y / PP) / PP / ((2*(j:Int)+2)*(2*(j:Int)+2+1)):Int):Rat)<=U*e x (2*j+3)/\U*e x (2*j+3)<=((pT (y*y / PP) y j*(y*y / PP) / PP / ((2*(j:Int)+2)*(2*(j:Int)+2+1)):Int):Rat)+5
  have ep:((pT (y*y / PP) y j*(y*y / PP):Int):Rat)=(pT (y*y / PP) y j:Rat)*((y*y / PP:Int):Rat):=by push_cast; rfl
  rw [ep] at ta tb
  clear ep
  have e4:=qP x0 (2*j+1)
  generalize pT (y*y / PP) y j*(y*y / PP) / PP / ((2*(j:Int)+2)*(2*(j:Int)+2+1))=r at *
  generalize pT (y*y / PP) y j*(y*y / PP) / PP=a at *
  generalize (((2*(j:Int)+2)*(2*(j:Int)+2+1):Int):Rat)=k at *
  generalize ((pT (y*y / PP) y j:Int):Rat)=p at *
  generalize ((y*y / PP:Int):Rat)=q at *
  generalize e x (2*j+1)=t at *
  generalize e x (2*j+3)=t' at *
  generalize (r:Rat)=r at *
  generalize (a:Rat)=a at *
  exact step hU x0 x1 nj pyr s0r i1 i2 sa sb ta tb ua ub hkr e3 e4
def qS (x:Rat):Nat->Rat
 | 0=>0
 | j+1=>match decide (j % 2=0) with|true=>qS x j+e x (2*j+1)|false=>qS x j - e x (2*j+1)
theorem afx (x:Rat):∀ j,Z sF (2*j) x=qS x j:=by
 intro j
 induction j with
 | zero=>rfl
 | succ j ih=>
  show sum _ (2*j+1+1)=_
  rw [sum,sum]
  show Z sF (2*j) x+_+_=_
  rw [ih,qS]
  by_cases h:j % 2=0
  .have e1:sF (2*j)=0:=by unfold sF; rw [show 2*j % 4=0 by omega]; rfl
   have e2:sF (2*j+1)=1:=by unfold sF; rw [show (2*j+1) % 4=1 by omega]; rfl
   rw [decide_eq_true h,e1,e2]; grind
  .have e1:sF (2*j)=0:=by unfold sF; rw [show 2*j % 4=2 by omega]; rfl
   have e2:sF (2*j+1)=-1:=by unfold sF; rw [show (2*j+1) % 4=3 by omega]; rfl
   rw [decide_eq_false h,e1,e2]; grind
theorem Xz {y:Int} (h0:0<=y) (h1:y*10<=16*PP):∀ j:Nat,(pS (y*y / PP) y j:Rat)<=U*qS ((y:Rat) / U) j+5*j/\U*qS ((y:Rat) / U) j<=(pS (y*y / PP) y j:Rat)+5*j:=by
 intro j
 induction j with
 | zero=>
  have z:qS ((y:Rat) / U) 0=0:=rfl
  have z2:pS (y*y / PP) y 0=0:=rfl
  rw [z,z2]; simp; decide +kernel
 | succ j ih=>
  obtain ⟨i1,i2⟩:=ih
  obtain ⟨t1,t2⟩:=MQ h0 h1 j
  rw [pS,qS]
  have c:((j+1:Nat):Rat)=(j:Rat)+1:=by push_cast; rfl
  rw [c]
  by_cases h:j % 2=0
  .rw [decide_eq_true h]; dsimp only; push_cast; grind
  .rw [decide_eq_false h]; dsimp only; push_cast; grind
theorem e65:U*e (8 / 5) 65<1:=by decide +kernel
theorem acQ {y:Int} (h0:0<=y) (h1:y*10<=16*PP):0<=(y:Rat) / U/\(y:Rat) / U<=8 / 5/\(y:Rat) / U*U=(y:Rat):=by
 have hU:(0:Rat)<U:=by decide
 have y0:(0:Rat)<=(y:Rat):=by exact_mod_cast h0
 have y1:(y:Rat)*10<=16*U:=by rw [<- OZ]; exact_mod_cast h1
 have hx:(y:Rat) / U*U=(y:Rat):=by grind
 refine ⟨?_,?_,hx⟩
 .refine Rat.le_of_mul_le_mul_right (c:=U) ?_ hU
  rw [hx]; grind
 .refine Rat.le_of_mul_le_mul_right (c:=U) ?_ hU
  rw [hx]; grind
theorem YE {y:Int} (h0:0<=y) (h1:y*10<=16*PP):0<=y*y / PP/\y*y / PP<=3*PP:=by
 have hP:0<PP:=gQ
 refine ⟨Int.ediv_nonneg (Int.mul_nonneg h0 h0) (by omega),Int.ediv_le_of_le_mul hP ?_⟩
 have a:y*10*(y*10)<=16*PP*(16*PP):=Int.mul_le_mul h1 h1 (by omega) (by omega)
 have b:0<=PP*PP:=Int.mul_nonneg (by omega) (by omega)
 grind
theorem DJ {y:Int} (h0:0<=y) (h1:y*10<=16*PP):mD (y*y / PP) 200 2 y y=pS (y*y / PP) y 32/\(mD (y*y / PP) 200 2 y y:Rat)<=U*S 64 ((y:Rat) / U)+160/\U*S 64 ((y:Rat) / U)<=(mD (y*y / PP) 200 2 y y:Rat)+160:=by
 obtain ⟨x0,x1,hx⟩:=acQ h0 h1
 obtain ⟨s0,s1⟩:=YE h0 h1
 have z:pT (y*y / PP) y 32=0:=by
  have a:=(MQ h0 h1 32).1
  have b:=Xx x0 x1 65
  have c:=e65
  have d:U*e ((y:Rat) / U) 65<=U*e (8 / 5) 65:=Rat.mul_le_mul_of_nonneg_left b (by decide)
  have f:(pT (y*y / PP) y 32:Rat)<1:=by
   have:U*e ((y:Rat) / U) (2*32+1)=U*e ((y:Rat) / U) 65:=rfl
   grind
  have g:pT (y*y / PP) y 32<1:=by exact_mod_cast f
  have:=(qQ s0 s1 h0 32).1
  omega
 have es:mD (y*y / PP) 200 2 y y=pS (y*y / PP) y 32:=by
  have a:=MP (sq:=y*y / PP) (y:=y) 200 0
  have b:pS (y*y / PP) y (0+1)=y:=by show 0+y=y; omega
  rw [b] at a
  rw [show (2:Int)=2*((0:Nat):Int)+2 by decide]
  refine Eq.trans a (MO z _ (by omega))
 have n:=Xz h0 h1 32
 rw [es]
 have e2:S 64 ((y:Rat) / U)=qS ((y:Rat) / U) 32:=afx _ 32
 rw [e2]
 have:(5:Rat)*((32:Nat):Rat)=160:=by decide +kernel
 rw [this] at n
 exact ⟨rfl,n⟩
theorem acR {x y:Rat} (hx:0<=x) (hx1:x<=8 / 5) (hy:0<=y) (hy1:y<=8 / 5) {d:Rat} (h1:x<=y+d) (h2:y<=x+d):S 64 x<=S 64 y+5*d/\S 64 y<=S 64 x+5*d:=by
 have key:∀ {x y:Rat},0<=x->x<=y->y<=8 / 5->y<=x+d->S 64 x<=S 64 y+5*d/\S 64 y<=S 64 x+5*d:=by
  intro x y h0 h1 h2 h3
  have a:=Tt Tn h0 h1 63
  have b:=DI (show 0<=y by grind) h2 63
  have c:Z one 63 (8 / 5)<=Z one 64 (8 / 5):=qO (by omega) fun i _=>by
   have:=qP (show (0:Rat)<=8 / 5 by grind) i
   simp only [one]; grind
  have z5:=Z5
  have nn:0<=Z one 63 y:=KM fun i _=>by
   have:=qP (show 0<=y by grind) i
   simp only [one]; grind
  have m:=Rat.mul_le_mul_of_nonneg_left (Rat.le_trans (Rat.le_trans b c) z5) (show 0<=y - x by grind)
  unfold S
  grind
 rcases Rat.le_total (a:=x) (b:=y) with h|h
 .exact key hx h hy1 h2
 .have:=key hy h hx1 h1
  exact ⟨this.2,this.1⟩
theorem XA {a b k:Int} (hb:0<b) (h1:k*b<=a) (h2:a<(k+1)*b):a / b=k:=by
 have h3:k<=a / b:=(Int.le_ediv_iff_mul_le hb).2 h1
 have h4:a / b<k+1:=(Int.ediv_lt_iff_lt_mul hb).2 h2
 omega
theorem acS {m d:Int} (hm:0<=m) (hd:m<=d) (h0:0<d):0<=(m:Rat) / (d:Rat)/\(m:Rat) / (d:Rat)<=1/\(m:Rat) / (d:Rat)*(d:Rat)=(m:Rat):=by
 have d0:(0:Rat)<(d:Rat):=by exact_mod_cast h0
 have m0:(0:Rat)<=(m:Rat):=by exact_mod_cast hm
 have md:(m:Rat)<=(d:Rat):=by exact_mod_cast hd
 have e:(m:Rat) / (d:Rat)*(d:Rat)=(m:Rat):=by grind
 refine ⟨?_,?_,e⟩
 .refine Rat.le_of_mul_le_mul_right (c:=(d:Rat)) ?_ d0
  rw [e]; grind
 .refine Rat.le_of_mul_le_mul_right (c:=(d:Rat)) ?_ d0
  rw [e]; grind
theorem MR:0<=hp/\hp<=8 / 5/\hp*U<=((RG:Int):Rat)/\((RG:Int):Rat)<=hp*U+17:=by
 refine ⟨?_,?_,?_,?_⟩ <;> decide +kernel
theorem FQ {q:Rat} (h0:0<=q) (h1:q<=1):0<=hp*q/\hp*q<=8 / 5:=by
 obtain ⟨a,b,_,_⟩:=MR
 have:=Rat.mul_le_mul_of_nonneg_left h1 a
 exact ⟨Rat.mul_nonneg a h0,by grind⟩
theorem O0 {m d:Int} (hm:0<=m) (hd:m<=d) (h0:0<d):(nM m d:Rat)<=U*tru ((m:Rat) / (d:Rat))+245/\U*tru ((m:Rat) / (d:Rat))<=(nM m d:Rat)+245:=by
 obtain ⟨q0,q1,qd⟩:=acS hm hd h0
 obtain ⟨p0,p1⟩:=FQ q0 q1
 obtain ⟨_,_,r0,r1⟩:=MR
 have hU:(0:Rat)<U:=by decide
 have d0:(0:Rat)<(d:Rat):=by exact_mod_cast h0
 have y0:0<=bF m d:=Int.ediv_nonneg (Int.mul_nonneg (by decide) hm) (by omega)
 have y1:bF m d<=RG:=Int.ediv_le_of_le_mul h0 (Int.mul_le_mul_of_nonneg_left hd (by decide))
 have y2:bF m d*10<=16*PP:=by
  have:RG*10<=16*PP:=by decide
  omega
 obtain ⟨x0,x1,hx⟩:=acQ y0 y2
 have n:=(DJ y0 y2).2
 have a:=FO (RG*m) d h0
 have b:=FP (RG*m) d h0
 have ya:(bF m d:Rat)<=(RG:Rat)*((m:Rat) / (d:Rat)):=by
  refine Rat.le_of_mul_le_mul_right (c:=(d:Rat)) ?_ d0
  rw [Rat.mul_assoc,qd]
  have:((RG*m:Int):Rat)=(RG:Rat)*(m:Rat):=by push_cast; rfl
  rw [this] at a
  exact a
 have yb:(RG:Rat)*((m:Rat) / (d:Rat))<=(bF m d:Rat)+1:=by
  refine Rat.le_of_mul_le_mul_right (c:=(d:Rat)) ?_ d0
  rw [Rat.mul_assoc,qd]
  have:((RG*m:Int):Rat)=(RG:Rat)*(m:Rat):=by push_cast; rfl
  rw [this] at b
  unfold bF
  grind
 generalize (m:Rat) / (d:Rat)=q at *
 have c1:=Rat.mul_le_mul_of_nonneg_right r0 q0
 have c2:=Rat.mul_le_mul_of_nonneg_right r1 q0
 have l:=acR x0 x1 p0 p1 (d:=17 / U)
  (by
   refine Rat.le_of_mul_le_mul_right (c:=U) ?_ hU
   have:(hp*q+17 / U)*U=hp*U*q+17:=by grind
   rw [hx,this]; grind)
  (by
   refine Rat.le_of_mul_le_mul_right (c:=U) ?_ hU
   have:((bF m d:Rat) / U+17 / U)*U=(bF m d:Rat)+17:=by grind
   rw [this]; grind)
 have u1:=Rat.mul_le_mul_of_nonneg_left l.1 (show 0<=U by grind)
 have u2:=Rat.mul_le_mul_of_nonneg_left l.2 (show 0<=U by grind)
 have eu:∀ s:Rat,U*(s+5*(17 / U))=U*s+85:=fun s=>by grind
 rw [eu] at u1 u2
 unfold tru
 unfold nM
 grind
theorem Tv {m d k:Int} (hm:0<m) (hd:m<d) (hD:d<=4294967296) (h:Tu ((m:Rat) / (d:Rat)) k):SinG m d/\lN m d=k:=by
 have P0:0<PP:=gQ
 have y0:0<=bF m d:=Int.ediv_nonneg (Int.mul_nonneg (by decide) (by omega)) (by omega)
 have y1:bF m d<=RG:=Int.ediv_le_of_le_mul (by omega) (Int.mul_le_mul_of_nonneg_left (by omega) (by decide))
 have rp:RG*10<=16*PP:=by decide
 have y3:365700000000000000000000000000000000<=bF m d:=by
  refine (Int.le_ediv_iff_mul_le (by omega)).2 ?_
  have a:365700000000000000000000000000000000*d<=365700000000000000000000000000000000*4294967296:=Int.mul_le_mul_of_nonneg_left hD (by decide)
  have b:RG*1<=RG*m:=Int.mul_le_mul_of_nonneg_left (by omega) (by decide)
  have c:(365700000000000000000000000000000000:Int)*4294967296<=RG*1:=by decide
  omega
 obtain ⟨s0,s1⟩:=YE y0 (by omega)
 have es:=(DJ y0 (by omega)).1
 have bd:=acP s0 s1 y0 15
 have t0:=qQ s0 s1 y0 0
 have t32:=(qQ s0 s1 y0 32).1
 have e0:pT (bF m d*bF m d / PP) (bF m d) 0=bF m d:=rfl
 have n1:nM m d=pS (bF m d*bF m d / PP) (bF m d) (2*15+2):=es
 have bt:0<=pT (bF m d*bF m d / PP) (bF m d) (2*15+2):=t32
 have t0':2*pT (bF m d*bF m d / PP) (bF m d) 1<=bF m d:=t0.2
 have lo:bF m d - pT (bF m d*bF m d / PP) (bF m d) 1<=nM m d:=by rw [n1]; exact bd.1
 have hi:nM m d<=bF m d:=by rw [n1]; omega
 have near:=O0 (m:=m) (d:=d) (by omega) (by omega) (by omega)
 obtain ⟨k1,k2⟩:=h
 generalize hT:tru ((m:Rat) / (d:Rat))=T at *
 have hd1:(100000000+245)*4294967296<U*dl:=by decide +kernel
 have hU:(0:Rat)<U:=by decide
 have m1:=Rat.mul_le_mul_of_nonneg_left k1 (show 0<=U by grind)
 have m2:=Rat.mul_le_mul_of_nonneg_left k2 (show 0<=U by grind)
 have key:∀ z:Int,-100000000<=z->z<=100000000->(nM m d+z)*4294967296 / PP=k:=by
  intro z z0 z1
  have z0r:((-100000000:Int):Rat)<=(z:Rat):=Rat.intCast_le_intCast.2 z0
  have z1r:(z:Rat)<=((100000000:Int):Rat):=Rat.intCast_le_intCast.2 z1
  have e1:((-100000000:Int):Rat)=-100000000:=by decide +kernel
  have e2:((100000000:Int):Rat)=100000000:=by decide +kernel
  have e3:((4294967296:Int):Rat)=4294967296:=by decide +kernel
  rw [e1] at z0r
  rw [e2] at z1r
  apply XA P0
  .apply Rat.intCast_le_intCast.1
   rw [Rat.intCast_mul,Rat.intCast_mul,Rat.intCast_add,OZ,e3]
   grind
  .apply Rat.intCast_lt_intCast.1
   rw [Rat.intCast_mul,Rat.intCast_mul,Rat.intCast_add,Rat.intCast_add,OZ,e3,Rat.intCast_one]
   grind
 have kl:=key (-100000000) (by decide) (by decide)
 have kh:=key 100000000 (by decide) (by decide)
 have el:lN m d=k:=by
  unfold lN
  rw [<- kl]; rfl
 refine ⟨⟨?_,by omega,by omega,by rw [el]; exact kh⟩,el⟩
 have q1:365700000000000000000000000000000000*365700000000000000000000000000000000<=bF m d*bF m d:=Int.mul_le_mul y3 y3 (by decide) y0
 have q2:(133736490000000000000000000:Int)<=bF m d*bF m d / PP:=(Int.le_ediv_iff_mul_le P0).2 (Int.le_trans (by decide) q1)
 have q3:365700000000000000000000000000000000*133736490000000000000000000<=bF m d*(bF m d*bF m d / PP):=Int.mul_le_mul y3 q2 (by decide) y0
 have q4:(1000:Int)<=bF m d*(bF m d*bF m d / PP) / PP:=(Int.le_ediv_iff_mul_le P0).2 (Int.le_trans (by decide) q3)
 have q5:(1:Int)<=bF m d*(bF m d*bF m d / PP) / PP / (2*(2+1)):=(Int.le_ediv_iff_mul_le (by decide)).2 (by omega)
 omega
end Go.Sn
namespace Go.Ln
open Go.Sn
def nr (x y E:Rat):Prop:=x<=y+E/\y<=x+E
theorem Tw {x y A B:Rat} (hx:-A<=x) (hx2:x<=A) (hy:-B<=y) (hy2:y<=B):-(A*B)<=x*y/\x*y<=A*B:=by
 have h1:=Rat.mul_nonneg (a:=A - x) (b:=B - y) (by grind) (by grind)
 have h2:=Rat.mul_nonneg (a:=A+x) (b:=B+y) (by grind) (by grind)
 have h3:=Rat.mul_nonneg (a:=A - x) (b:=B+y) (by grind) (by grind)
 have h4:=Rat.mul_nonneg (a:=A+x) (b:=B - y) (by grind) (by grind)
 constructor <;> grind
theorem xS {s A E c B F:Rat} (h1:nr s A E) (h2:nr c B F) (hs:0<=s) (hc:0<=c):nr (s*c) (A*B) (s*F+E*(c+F)):=by
 obtain ⟨a1,a2⟩:=h1
 obtain ⟨b1,b2⟩:=h2
 have m1:=Tw (x:=s) (y:=c - B) (A:=s) (B:=F) (by grind) (by grind) (by grind) (by grind)
 have m2:=Tw (x:=s - A) (y:=B) (A:=E) (B:=c+F) (by grind) (by grind) (by grind) (by grind)
 unfold nr
 constructor <;> grind
theorem Tx {a A E b B F:Rat} (h1:nr a A E) (h2:nr b B F):nr (a+b) (A+B) (E+F):=by
 unfold nr at *; constructor <;> grind
theorem aa2 {a A E b B F:Rat} (h1:nr a A E) (h2:nr b B F):nr (a - b) (A - B) (E+F):=by
 unfold nr at *; constructor <;> grind
theorem nP {a A E F:Rat} (h:nr a A E) (hf:E<=F):nr a A F:=by
 unfold nr at *; constructor <;> grind
theorem gT (n:Nat):(0:Rat)<=(n:Rat):=by exact_mod_cast Nat.zero_le n
theorem pw_pos (r:Nat):(0:Rat)<(2:Rat) ^ r:=by
 induction r with
 | zero=>simp; decide +kernel
 | succ r ih=>rw [Rat.pow_succ]; grind
theorem o6 (r:Nat):((2 ^ r:Nat):Rat)=(2:Rat) ^ r:=by push_cast; rfl
theorem Ty {z r E:Nat} {X T:Rat} (h:nr (z:Rat) ((2:Rat) ^ r*X) T) (hE:T<=(2:Rat) ^ r*(E:Rat)):nr ((z >>> r:Nat):Rat) X ((E:Rat)+1):=by
 have p:=pw_pos r
 have h1:(z >>> r)*2 ^ r<=z:=by rw [Nat.shiftRight_eq_div_pow]; exact Nat.div_mul_le_self ..
 have h2:z<((z >>> r)+1)*2 ^ r:=by
  rw [Nat.shiftRight_eq_div_pow]
  have:=Nat.lt_mul_div_succ z (Nat.two_pow_pos r)
  rw [Nat.mul_comm]; exact this
 have h1r:((z >>> r:Nat):Rat)*(2:Rat) ^ r<=(z:Rat):=by rw [<- o6]; exact_mod_cast h1
 have h2r:(z:Rat)<(((z >>> r:Nat):Rat)+1)*(2:Rat) ^ r:=by rw [<- o6]; exact_mod_cast h2
 generalize ((z >>> r:Nat):Rat)=y at *
 generalize (2:Rat) ^ r=k at *
 obtain ⟨a,b⟩:=h
 constructor
 .refine Rat.le_of_mul_le_mul_right (c:=k) ?_ p
  grind
 .refine Rat.le_of_mul_le_mul_right (c:=k) ?_ p
  grind
def jh (r B E1 c2 s2 E2:Nat):Nat:=((B*E2+E1*(c2+s2+2*E2)) >>> r)+3
theorem BK {r:Nat} (hr:r<=160) {x:Rat} (h0:0<=x) (h1:x<=8 / 5):(2:Rat) ^ r*lQ 64 x<=1:=by
 have a:=(rT h0 h1 64).2
 have b:=acO
 have c:=(rT h0 h1 64).1
 have m:((2 ^ r:Nat):Rat)<=((2 ^ 230:Nat):Rat):=by
  have:2 ^ r<=2 ^ 230:=Nat.pow_le_pow_right (by decide) (by omega)
  exact_mod_cast this
 rw [o6,o6] at m
 have d:=Rat.mul_le_mul_of_nonneg_right m c
 have e:=Rat.mul_le_mul_of_nonneg_left a (show (0:Rat)<=(2:Rat) ^ 230 by have:=pw_pos 230; grind)
 grind
theorem rot {r:Nat} (hr:r<=160) {a b:Rat} (ha:0<=a) (hb:0<=b) (hab:a+b<=8 / 5) {s1 c1 s2 c2 E1 E2 B:Nat}
  (h1:nr (s1:Rat) ((2:Rat) ^ r*S 64 a) E1) (h2:nr (c1:Rat) ((2:Rat) ^ r*C 64 a) E1) (h3:nr (s2:Rat) ((2:Rat) ^ r*S 64 b) E2) (h4:nr (c2:Rat) ((2:Rat) ^ r*C 64 b) E2) (hB:s1+c1<=B):
  nr (((s1*c2+c1*s2) >>> r:Nat):Rat) ((2:Rat) ^ r*S 64 (a+b)) (jh r B E1 c2 s2 E2:Nat) /\
  (s1*s2<=c1*c2->nr (((c1*c2 - s1*s2) >>> r:Nat):Rat) ((2:Rat) ^ r*C 64 (a+b)) (jh r B E1 c2 s2 E2:Nat)):=by
 have p:=pw_pos r
 have t:=BK hr (show 0<=a+b by grind) hab
 have sa:=FN ha hb 64
 have ca:=MN ha hb 64
 have n1:=gT s1
 have n2:=gT c1
 have n3:=gT s2
 have n4:=gT c2
 have nE1:=gT E1
 have nE2:=gT E2
 have hE:((s1:Rat)+(c1:Rat))*(E2:Rat)+(E1:Rat)*((c2:Rat)+(s2:Rat)+2*(E2:Rat))+(2:Rat) ^ r<=(2:Rat) ^ r*((((B*E2+E1*(c2+s2+2*E2)) >>> r)+2:Nat):Rat):=by
  have h3:(s1+c1)*E2+E1*(c2+s2+2*E2)+2 ^ r<=2 ^ r*(((B*E2+E1*(c2+s2+2*E2)) >>> r)+2):=by
   have h0:=Nat.mul_le_mul_right E2 hB
   generalize E1*(c2+s2+2*E2)=Y at *
   generalize (s1+c1)*E2=Z at *
   generalize B*E2=V at *
   rw [Nat.shiftRight_eq_div_pow]
   have:=Nat.lt_mul_div_succ (V+Y) (Nat.two_pow_pos r)
   rw [Nat.mul_add] at this ⊢
   omega
  have:(((s1+c1)*E2+E1*(c2+s2+2*E2)+2 ^ r:Nat):Rat)<=((2 ^ r*(((B*E2+E1*(c2+s2+2*E2)) >>> r)+2):Nat):Rat):=by exact_mod_cast h3
  push_cast at this
  push_cast
  exact this
 have fin:∀ {z:Nat} {X:Rat},nr (z:Rat) ((2:Rat) ^ r*((2:Rat) ^ r*X)) (((s1:Rat)+(c1:Rat))*(E2:Rat)+(E1:Rat)*((c2:Rat)+(s2:Rat)+2*(E2:Rat))+(2:Rat) ^ r)->nr ((z >>> r:Nat):Rat) ((2:Rat) ^ r*X) (jh r B E1 c2 s2 E2:Nat):=by
  intro z X h
  have:=Ty h hE
  have e:((jh r B E1 c2 s2 E2:Nat):Rat)=((((B*E2+E1*(c2+s2+2*E2)) >>> r)+2:Nat):Rat)+1:=by
   unfold jh; push_cast; grind
  rw [e]; exact this
 have t2:=Rat.mul_le_mul_of_nonneg_left t (show 0<=(2:Rat) ^ r by grind)
 constructor
 .apply fin
  have a1:=Tx (xS h1 h4 n1 n4) (xS h2 h3 n2 n3)
  push_cast
  generalize (2:Rat) ^ r=k at *
  have k2:=Rat.mul_le_mul_of_nonneg_left sa.1 (show 0<=k*k from Rat.mul_nonneg (by grind) (by grind))
  have k3:=Rat.mul_le_mul_of_nonneg_left sa.2 (show 0<=k*k from Rat.mul_nonneg (by grind) (by grind))
  unfold nr at *
  constructor <;> grind
 .intro hle
  apply fin
  have a1:=aa2 (xS h2 h4 n2 n4) (xS h1 h3 n1 n3)
  have e:((c1*c2 - s1*s2:Nat):Rat)=(c1:Rat)*(c2:Rat) - (s1:Rat)*(s2:Rat):=by
   have h:c1*c2 - s1*s2+s1*s2=c1*c2:=by omega
   have:((c1*c2 - s1*s2+s1*s2:Nat):Rat)=((c1*c2:Nat):Rat):=by rw [h]
   push_cast at this
   grind
  rw [e]
  generalize (2:Rat) ^ r=k at *
  have k2:=Rat.mul_le_mul_of_nonneg_left ca.1 (show 0<=k*k from Rat.mul_nonneg (by grind) (by grind))
  have k3:=Rat.mul_le_mul_of_nonneg_left ca.2 (show 0<=k*k from Rat.mul_nonneg (by grind) (by grind))
  unfold nr at *
  constructor <;> grind
def gL {α:Type} (n:Nat) (k:Nat->α):α:=match n with|0=>k 0|m+1=>k (Nat.succ m)
theorem wC {α:Type} (n:Nat) (k:Nat->α):gL n k=k n:=by cases n <;> rfl
def vC (m k CV SV c s:Nat):Nat:=CV+(((CV*c - SV*s) >>> 80) &&& (m*wB 164 k))*2 ^ (164*2 ^ k)
def vS (m k CV SV c s:Nat):Nat:=SV+(((SV*c+CV*s) >>> 80) &&& (m*wB 164 k))*2 ^ (164*2 ^ k)
def build:Nat->Nat->Nat->Nat->Nat->Nat->Nat->Nat->(Nat->Nat->Nat->Nat->Nat->Nat->Bool)->Bool
 | 0,_,CV,SV,EV,s,c,E,K=>K CV SV EV s c E
 | n+1,k,CV,SV,EV,s,c,E,K=>
  Nat.ble E (2 ^ 79)&&Nat.ble EV (2 ^ 70)&&Nat.ble (s*s) (c*c) &&
  gL (c >>> 80) fun cc=>gL (s >>> 80) fun ss=>gL (2 ^ 84 - 1) fun m=>
  gL (vC m k CV SV cc ss) fun CV'=>gL (vS m k CV SV cc ss) fun SV'=>gL (jh 80 (2 ^ 81) EV (cc+2 ^ 74) ss 2) fun EV'=>
  gL ((s*c+c*s) >>> 160) fun s'=>gL ((c*c - s*s) >>> 160) fun c'=>gL (jh 160 (s+c) E c s E) fun E'=>
  build n (k+1) CV' SV' EV' s' c' E' K
def Vec (η:Rat) (k E CV SV:Nat):Prop:=∃ fc fs:Nat->Nat,CV=ak 164 fc (2 ^ k)/\SV=ak 164 fs (2 ^ k)/\∀ j,j<2 ^ k->nr (fc j:Rat) ((2:Rat) ^ 80*C 64 (η*(j:Rat))) E/\nr (fs j:Rat) ((2:Rat) ^ 80*S 64 (η*(j:Rat))) E
def iR (a:Rat) (s c E:Nat):Prop:=nr (s:Rat) ((2:Rat) ^ 160*S 64 a) E/\nr (c:Rat) ((2:Rat) ^ 160*C 64 a) E
theorem S0:S 64 0=0:=by decide +kernel
theorem C0:C 64 0=1:=by decide +kernel
theorem MS {x:Rat} (h0:0<=x) (h1:x<=1 / 500):-(1 / 100)<=S 64 x/\S 64 x<=1 / 100/\1 - 1 / 100<=C 64 x/\C 64 x<=1+1 / 100:=by
 have z:Z one 63 x<=5:=by
  have a:=DI h0 (show x<=8 / 5 by grind) 63
  have c:Z one 63 (8 / 5)<=Z one 64 (8 / 5):=qO (by omega) fun i _=>by
   have:=qP (show (0:Rat)<=8 / 5 by grind) i
   simp only [one]; grind
  exact Rat.le_trans (Rat.le_trans a c) Z5
 have z0:0<=Z one 63 x:=KM fun i _=>by
  have:=qP h0 i
  simp only [one]; grind
 have m:=Rat.mul_le_mul_of_nonneg_left z h0
 have a:=Tt Tn (Rat.le_refl (a:=0)) h0 63
 have b:=Tt Tp (Rat.le_refl (a:=0)) h0 63
 have e1:Z sF (63+1) 0=0:=S0
 have e2:Z cF (63+1) 0=1:=C0
 rw [e1] at a
 rw [e2] at b
 unfold S C
 have e3:Z sF 64 x=Z sF (63+1) x:=rfl
 have e4:Z cF 64 x=Z cF (63+1) x:=rfl
 rw [e3,e4]
 generalize Z sF (63+1) x=p at *
 generalize Z cF (63+1) x=q at *
 refine ⟨?_,?_,?_,?_⟩ <;> grind
theorem P80:(2:Rat) ^ 80=1208925819614629174706176:=by decide +kernel
theorem KN {x:Rat} (h0:0<=x) (h1:x<=1 / 500) {s c E:Nat} (hE:E<=2 ^ 70) (hc:nr (c:Rat) ((2:Rat) ^ 80*C 64 x) E) (hs:nr (s:Rat) ((2:Rat) ^ 80*S 64 x) E):2 ^ 80 - 2 ^ 74<=c/\c<=2 ^ 80+2 ^ 76/\s<=2 ^ 76:=by
 obtain ⟨s1,s2,c1,c2⟩:=MS h0 h1
 have hEr:(E:Rat)<=((2 ^ 70:Nat):Rat):=by exact_mod_cast hE
 have e70:((2 ^ 70:Nat):Rat)=1180591620717411303424:=by decide +kernel
 rw [e70] at hEr
 rw [P80] at hc hs
 unfold nr at hc hs
 refine ⟨?_,?_,?_⟩
 .have:((2 ^ 80 - 2 ^ 74:Nat):Rat)<=(c:Rat):=by
   have e:((2 ^ 80 - 2 ^ 74:Nat):Rat)=1190036353683150593851392:=by decide +kernel
   rw [e]; grind
  exact_mod_cast this
 .have:(c:Rat)<=((2 ^ 80+2 ^ 76:Nat):Rat):=by
   have e:((2 ^ 80+2 ^ 76:Nat):Rat)=1284483683340543498125312:=by decide +kernel
   rw [e]; grind
  exact_mod_cast this
 .have:(s:Rat)<=((2 ^ 76:Nat):Rat):=by
   have e:((2 ^ 76:Nat):Rat)=75557863725914323419136:=by decide +kernel
   rw [e]; grind
  exact_mod_cast this
theorem MU {a:Rat} {s c E:Nat} (h:iR a s c E) (hE:E<=2 ^ 80):nr ((s >>> 80:Nat):Rat) ((2:Rat) ^ 80*S 64 a) (2:Nat)/\nr ((c >>> 80:Nat):Rat) ((2:Rat) ^ 80*C 64 a) (2:Nat):=by
 have hEr:(E:Rat)<=((2 ^ 80:Nat):Rat):=by exact_mod_cast hE
 have key:∀ {z:Nat} {X:Rat},nr (z:Rat) ((2:Rat) ^ 160*X) E->nr ((z >>> 80:Nat):Rat) ((2:Rat) ^ 80*X) (2:Nat):=by
  intro z X h
  have e:(2:Rat) ^ 160*X=(2:Rat) ^ 80*((2:Rat) ^ 80*X):=by
   rw [show (2:Rat) ^ 160=(2:Rat) ^ 80*(2:Rat) ^ 80 by decide +kernel]; grind
  rw [e] at h
  have:=Ty (E:=1) h (by
   have:((1:Nat):Rat)=1:=by decide +kernel
   rw [this,<- o6]; grind)
  exact nP this (by decide +kernel)
 exact ⟨key h.1,key h.2⟩
theorem yL {a b c d:Nat} (ha:a+c<=2 ^ 81) (hb:b<=2 ^ 82) (hd:d<=2 ^ 82):a*b+c*d<=2 ^ 163:=by
 have h1:=Nat.mul_le_mul_left a hb
 have h2:=Nat.mul_le_mul_left c hd
 have h3:=Nat.mul_le_mul_right (2 ^ 82) ha
 have e:2 ^ 81*2 ^ 82=2 ^ 163:=by rw [<- Nat.pow_add]
 rw [Nat.add_mul] at h3
 omega
theorem p2 {k:Nat}:((2 ^ k:Nat):Rat)=(2:Rat) ^ k:=o6 k
theorem Tz {η:Rat} (hη:0<=η) {k EV CV SV c s:Nat} (h:Vec η k EV CV SV) (hs:nr (s:Rat) ((2:Rat) ^ 80*S 64 (η*((2 ^ k:Nat):Rat))) (2:Nat)) (hc:nr (c:Rat) ((2:Rat) ^ 80*C 64 (η*((2 ^ k:Nat):Rat))) (2:Nat))
  (hx:η*((2 ^ (k+1):Nat):Rat)<=1 / 500) (hE:EV<=2 ^ 70):Vec η (k+1) (jh 80 (2 ^ 81) EV (c+2 ^ 74) s 2) (vC (2 ^ 84 - 1) k CV SV c s) (vS (2 ^ 84 - 1) k CV SV c s):=by
 obtain ⟨fc,fs,eC,eS,hv⟩:=h
 have ek:((2 ^ (k+1):Nat):Rat)=2*((2 ^ k:Nat):Rat):=by rw [Nat.pow_succ]; push_cast; grind
 have npk:=gT (2 ^ k)
 have hb0:0<=η*((2 ^ k:Nat):Rat):=Rat.mul_nonneg hη npk
 have hb1:η*((2 ^ k:Nat):Rat)<=1 / 500:=by rw [ek] at hx; grind
 have hj:∀ j:Nat,j<2 ^ k->0<=η*(j:Rat)/\η*(j:Rat)<=η*((2 ^ k:Nat):Rat):=fun j hj=>⟨Rat.mul_nonneg hη (gT j),Rat.mul_le_mul_of_nonneg_left (by exact_mod_cast Nat.le_of_lt hj) hη⟩
 obtain ⟨c0,c1,s1⟩:=KN hb0 hb1 (show 2<=2 ^ 70 by decide) hc hs
 have hv2:∀ j,j<2 ^ k->2 ^ 80 - 2 ^ 74<=fc j/\fc j<=2 ^ 80+2 ^ 76/\fs j<=2 ^ 76:=fun j h=>KN (hj j h).1 (Rat.le_trans (hj j h).2 hb1) hE (hv j h).1 (hv j h).2
 have e84:164 - 80=84:=rfl
 have hle:∀ j,j<2 ^ k->fs j*s<=fc j*c:=fun j h=>by
  obtain ⟨a1,a2,a3⟩:=hv2 j h
  exact Nat.mul_le_mul (Nat.le_trans a3 (Nat.le_trans (by decide) a1)) (Nat.le_trans s1 (Nat.le_trans (by decide) c0))
 have hlt:∀ j,j<2 ^ k->fc j*c+fs j*s<2 ^ 164:=fun j h=>by
  obtain ⟨a1,a2,a3⟩:=hv2 j h
  have:=yL (a:=fc j) (b:=c) (c:=fs j) (d:=s) (by omega) (by omega) (by omega)
  exact Nat.lt_of_le_of_lt this (by decide)
 have hlt2:∀ j,j<2 ^ k->fs j*c+fc j*s<2 ^ 164:=fun j h=>by
  obtain ⟨a1,a2,a3⟩:=hv2 j h
  have:=yL (a:=fs j) (b:=c) (c:=fc j) (d:=s) (by omega) (by omega) (by omega)
  exact Nat.lt_of_le_of_lt this (by decide)
 have lC:((CV*c - SV*s) >>> 80) &&& ((2 ^ 84 - 1)*wB 164 k)=ak 164 (fun j=>(fc j*c - fs j*s) / 2 ^ 80) (2 ^ k):=by
  rw [zF,<- qN,eC,eS,Nat.mul_comm (ak 164 fc _),Nat.mul_comm (ak 164 fs _),jG,jG,OX (fun j h=>by rw [Nat.mul_comm s,Nat.mul_comm c]; exact hle j h)]
  rw [iO (g:=fun j=>fc j*c - fs j*s) (fun j _=>by rw [Nat.mul_comm c,Nat.mul_comm s])]
  exact DC (p:=80) (by decide) (by decide) (fun j h=>by have:=hlt j h; omega)
 have lS:((SV*c+CV*s) >>> 80) &&& ((2 ^ 84 - 1)*wB 164 k)=ak 164 (fun j=>(fs j*c+fc j*s) / 2 ^ 80) (2 ^ k):=by
  rw [zF,<- qN,eC,eS,Nat.mul_comm (ak 164 fc _),Nat.mul_comm (ak 164 fs _),jG,jG,kU]
  rw [iO (g:=fun j=>fs j*c+fc j*s) (fun j _=>by rw [Nat.mul_comm c,Nat.mul_comm s])]
  exact DC (p:=80) (by decide) (by decide) (fun j h=>hlt2 j h)
 have spl:∀ f g:Nat->Nat,ak 164 f (2 ^ k)+ak 164 g (2 ^ k)*2 ^ (164*2 ^ k)=ak 164 (fun i=>if i<2 ^ k then f i else g (i - 2 ^ k)) (2 ^ (k+1)):=by
  intro f g
  rw [show 2 ^ (k+1)=2 ^ k+2 ^ k by rw [Nat.pow_succ]; omega,DD]
  rw [iO (f:=fun i=>if i<2 ^ k then f i else g (i - 2 ^ k)) (g:=f) (fun i h=>by simp [h])]
  rw [iO (f:=fun i=>if 2 ^ k+i<2 ^ k then f (2 ^ k+i) else g (2 ^ k+i - 2 ^ k)) (g:=g) (fun i h=>by rw [if_neg (by omega),show 2 ^ k+i - 2 ^ k=i by omega])]
 have hEE:(EV:Rat)<=(jh 80 (2 ^ 81) EV (c+2 ^ 74) s 2:Nat):=by
  have:EV<=jh 80 (2 ^ 81) EV (c+2 ^ 74) s 2:=by
   unfold jh
   rw [Nat.shiftRight_eq_div_pow]
   have h1:EV*2 ^ 80<=EV*(c+2 ^ 74+s+2*2):=Nat.mul_le_mul_left _ (by omega)
   have h2:EV<=(2 ^ 81*2+EV*(c+2 ^ 74+s+2*2)) / 2 ^ 80:=(Nat.le_div_iff_mul_le (Nat.two_pow_pos 80)).2 (by omega)
   omega
  exact_mod_cast this
 have hE2:((jh 80 (2 ^ 81) EV c s 2:Nat):Rat)<=(jh 80 (2 ^ 81) EV (c+2 ^ 74) s 2:Nat):=by
  have:jh 80 (2 ^ 81) EV c s 2<=jh 80 (2 ^ 81) EV (c+2 ^ 74) s 2:=by
   unfold jh
   rw [Nat.shiftRight_eq_div_pow,Nat.shiftRight_eq_div_pow]
   have h1:EV*(c+s+2*2)<=EV*(c+2 ^ 74+s+2*2):=Nat.mul_le_mul_left _ (by omega)
   exact Nat.add_le_add_right (Nat.div_le_div_right (by omega)) 3
  exact_mod_cast this
 refine ⟨fun i=>if i<2 ^ k then fc i else (fc (i - 2 ^ k)*c - fs (i - 2 ^ k)*s) / 2 ^ 80,fun i=>if i<2 ^ k then fs i else (fs (i - 2 ^ k)*c+fc (i - 2 ^ k)*s) / 2 ^ 80,?_,?_,?_⟩
 .unfold vC
  rw [lC,eC]; exact spl _ _
 .unfold vS
  rw [lS,eS]; exact spl _ _
 .intro i hi
  dsimp only
  by_cases h:i<2 ^ k
  .rw [if_pos h,if_pos h]
   have hh:=hv i h
   exact ⟨nP hh.1 hEE,nP hh.2 hEE⟩
  .rw [if_neg h,if_neg h]
   have hi2:i - 2 ^ k<2 ^ k:=by rw [Nat.pow_succ] at hi; omega
   obtain ⟨a1,a2,a3⟩:=hv2 _ hi2
   obtain ⟨g1,g2⟩:=hj _ hi2
   have ei:η*(i:Rat)=η*((i - 2 ^ k:Nat):Rat)+η*((2 ^ k:Nat):Rat):=by
    have:((i - 2 ^ k+2 ^ k:Nat):Rat)=(i:Rat):=by rw [Nat.sub_add_cancel (by omega)]
    rw [<- this]; push_cast; grind
   have r:=rot (r:=80) (by decide) g1 hb0 (by grind) (hv _ hi2).2 (hv _ hi2).1 hs hc (B:=2 ^ 81) (by omega)
   rw [<- Nat.shiftRight_eq_div_pow,<- Nat.shiftRight_eq_div_pow,ei]
   exact ⟨nP (r.2 (hle _ hi2)) hE2,nP r.1 hE2⟩
theorem Jj {a b:Rat} (ha:0<=a) (hb:0<=b) (hab:a+b<=8 / 5) {s1 c1 E1 s2 c2 E2:Nat} (h1:iR a s1 c1 E1) (h2:iR b s2 c2 E2) (hle:s1*s2<=c1*c2):
  iR (a+b) ((s1*c2+c1*s2) >>> 160) ((c1*c2 - s1*s2) >>> 160) (jh 160 (s1+c1) E1 c2 s2 E2):=by
 have r:=rot (r:=160) (by decide) ha hb hab h1.1 h1.2 h2.1 h2.2 (Nat.le_refl _)
 exact ⟨r.1,r.2 hle⟩
theorem build_ok {η:Rat} (hη:0<=η):∀ (n k CV SV EV s c E:Nat) (K:Nat->Nat->Nat->Nat->Nat->Nat->Bool),Vec η k EV CV SV->iR (η*((2 ^ k:Nat):Rat)) s c E->η*((2 ^ (k+n):Nat):Rat)<=1 / 500->build n k CV SV EV s c E K=true ->
  ∃ CV' SV' EV' s' c' E',Vec η (k+n) EV' CV' SV'/\iR (η*((2 ^ (k+n):Nat):Rat)) s' c' E'/\K CV' SV' EV' s' c' E'=true
 | 0,k,CV,SV,EV,s,c,E,K,hv,hs,_,h=>⟨_,_,_,_,_,_,hv,hs,h⟩
 | n+1,k,CV,SV,EV,s,c,E,K,hv,hs,hx,h=>by
  rw [build] at h
  simp only [wC,Bool.and_eq_true,Nat.ble_eq] at h
  obtain ⟨⟨⟨h1,h2⟩,h3⟩,h4⟩:=h
  have hle:∀ {i j:Nat},i<=j->η*((2 ^ i:Nat):Rat)<=η*((2 ^ j:Nat):Rat):=fun {i j} hij=>Rat.mul_le_mul_of_nonneg_left (by exact_mod_cast Nat.pow_le_pow_right (by decide) hij) hη
  have hx1:η*((2 ^ (k+1):Nat):Rat)<=1 / 500:=Rat.le_trans (hle (by omega)) hx
  have hk0:0<=η*((2 ^ k:Nat):Rat):=Rat.mul_nonneg hη (gT _)
  have ek:η*((2 ^ (k+1):Nat):Rat)=η*((2 ^ k:Nat):Rat)+η*((2 ^ k:Nat):Rat):=by rw [Nat.pow_succ]; push_cast; grind
  obtain ⟨g1,g2⟩:=MU hs (Nat.le_trans h1 (by decide))
  have v2:=Tz hη hv g1 g2 hx1 h2
  have s2:=Jj hk0 hk0 (by rw [<- ek]; grind) hs hs h3
  rw [<- ek] at s2
  have ih:=build_ok hη n (k+1) _ _ _ _ _ _ K v2 s2 (by rw [show k+1+n=k+(n+1) by omega]; exact hx) h4
  rw [show k+1+n=k+(n+1) by omega] at ih
  exact ih
theorem acT {η:Rat}:Vec η 0 0 (2 ^ 80) 0:=by
 refine ⟨fun _=>2 ^ 80,fun _=>0,by simp [ak],by simp [ak],fun j hj=>?_⟩
 have:j=0:=by omega
 subst this
 have e:η*((0:Nat):Rat)=0:=by simp
 rw [e,S0,C0]
 have z:((0:Nat):Rat)=0:=by simp
 rw [z,o6]
 unfold nr
 refine ⟨⟨?_,?_⟩,⟨?_,?_⟩⟩ <;> grind
end Go.Ln
