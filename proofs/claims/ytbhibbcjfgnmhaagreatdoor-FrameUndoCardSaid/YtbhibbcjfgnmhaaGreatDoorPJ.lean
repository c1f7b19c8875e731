/- What is proved: FrameUndo returns true, whatever the input (part 10). No conditions beyond those of the row. -/
import Derived.Test.YtbhibbcjfgnmhaaGreatDoorPI
import Derived.KernelRfl
set_option linter.unusedVariables false
set_option linter.unusedSimpArgs false
set_option linter.unusedSectionVars false
namespace Go.Proofs.YtbhibbcjfgnmhaaGreatDoor.K
open Go Go.Eng Go.Dg
noncomputable section
structure ArD (x:Int) (one:List Int):Prop where
 d:Dig one
 l:one.length<=100
 hi:val one<=PP
 x0:2<=x
 x1:x<=30000
 lo:0<arQ x one / 1
theorem ArD.xx {x:Int} {one:List Int} (h:ArD x one):4<=x*x/\x*x<=900000000/\IntKind.i64.wrap (x*x)=x*x:=by
 have x0:=h.x0
 have x1:=h.x1
 have a:=Int.mul_le_mul (a:=2) (b:=2) (c:=x) (d:=x) x0 x0 (by decide) (by omega)
 have b:=Int.mul_le_mul (a:=x) (b:=x) (c:=30000) (d:=30000) x1 x1 (by omega) (by decide)
 exact ⟨by omega,by omega,iw (by omega) (by omega)⟩
theorem H8 {t m:Int} (ht:0<=t) (hm:2<=m):0<=t / m/\2*(t / m)<=t:=by
 have h0:=Int.ediv_nonneg ht (show 0<=m by omega)
 have h1:=Int.ediv_mul_le t (b:=m) (by omega)
 have h2:=Int.mul_le_mul_of_nonneg_left hm h0
 exact ⟨h0,by omega⟩
theorem Le {t m:Int} (ht:0<=t) (hm:1<=m):0<=t / m/\t / m<=t:=⟨Int.ediv_nonneg ht (by omega),Int.ediv_le_self _ ht⟩
theorem Cv {a b m n:Int} (h0:0<=a) (h1:a<=b) (h2:1<=n) (h3:n<=m):a / m<=b / n:=by
 have p1:=Int.ediv_mul_le a (b:=m) (by omega)
 have p0:0<=a / m:=Int.ediv_nonneg h0 (by omega)
 have p2:=Int.mul_le_mul_of_nonneg_left h3 p0
 exact (Int.le_ediv_iff_mul_le (by omega)).2 (by omega)
theorem ArD.q {x:Int} {one:List Int} (h:ArD x one):0<=arQ x one/\arQ x one<=PP:=by
 have v0:=ai h.d
 have x0:=h.x0
 obtain ⟨a,b,_⟩:=h.xx
 refine ⟨Int.ediv_nonneg (Int.mul_nonneg v0 (by omega)) (by omega),Int.le_trans (Int.ediv_le_of_le_mul (by omega) ?_) h.hi⟩
 refine Int.mul_le_mul_of_nonneg_left ?_ v0
 have:=Int.mul_le_mul_of_nonneg_left (show 1<=x by omega) (show 0<=x by omega)
 omega
theorem QS {x:Int} {one:List Int} (h:ArD x one):arR x one (some (3,arQ x one,arQ x one / 1))=arR x one none:=by
 show df x 199 3 _ _=df x (199+1) 1 (val one*x) 0
 rw [Cu (show val one*x / (x*x) / 1≠0 from by have:=h.lo; unfold arQ at this; omega)]
 show _=df x 199 (1+2) (val one*x / (x*x)) (0+val one*x / (x*x) / 1)
 rw [Int.zero_add]; rfl
theorem Vm {x:Int} {one:List Int} {i t s:Int} (hi:(i / 2).toNat<=199) (h:t / (x*x) / i=0):arR x one (some (i,t,s))=s:=by
 show df x (200 - (i / 2).toNat) i t s=s
 rw [show 200 - (i / 2).toNat=(199 - (i / 2).toNat)+1 by omega,QD h]
theorem QT {x:Int} {one:List Int} {i t s:Int} (h0:0<=i) (hi:(i / 2).toNat<=199) (h:t / (x*x) / i≠0):arR x one ((arU x one).next (some (i,t,s)))=arR x one (some (i,t,s)):=by
 show df x (200 - ((i+2) / 2).toNat) (i+2) (t / (x*x)) _=df x (200 - (i / 2).toNat) i t s
 rw [show 200 - (i / 2).toNat=(199 - (i / 2).toNat)+1 by omega,Cu h,show 200 - ((i+2) / 2).toNat=199 - (i / 2).toNat by omega]
 first|done|rfl
theorem Nk {x:Int} {one:List Int} (h:ArD x one):(arU x one).I ((arU x one).next none):=by
 obtain ⟨q0,q1⟩:=h.q
 have l0:=h.lo
 rw [Int.ediv_one] at l0
 have p:=gm
 show 0<arQ x one/\(3:Int) % 2=1/\(2:Int)<3/\(3:Int)<=399/\(2:Int) ^ (1:Nat)*arQ x one<=4*PP/\0<=arQ x one / 1/\((3:Int) % 4=3->arQ x one / (3 - 2)<=arQ x one / 1)/\arQ x one / 1<=3*PP
 rw [show (3:Int) - 2=1 from rfl,Int.ediv_one,show (2:Int) ^ (1:Nat)=2 from rfl]
 refine ⟨l0,by decide,by decide,by decide,by omega,q0,by omega,by omega⟩
theorem QU {x:Int} {one:List Int} (h:ArD x one) {i t s:Int} (hI:(arU x one).I (some (i,t,s))) (h0:t / (x*x) / i≠0):(arU x one).I ((arU x one).next (some (i,t,s))):=by
 obtain ⟨t0,i0,i1,i2,pw,s0,ts,sb⟩:=(show 0<t/\i % 2=1/\2<i/\i<=399/\2 ^ (i / 2).toNat*t<=4*PP/\0<=s/\(i % 4=3->t / (i - 2)<=s)/\s<=i*PP from hI)
 obtain ⟨xa,xb,_⟩:=h.xx
 obtain ⟨b0,b1⟩:=H8 (t:=t) (m:=x*x) (by omega) (by omega)
 obtain ⟨c0,c1⟩:=Le (t:=t / (x*x)) (m:=i) b0 (by omega)
 have cm:i % 4=3->t / (x*x) / i<=t / (i - 2):=fun _=>Cv b0 (by omega) (by omega) (by omega)
 have ce:t / (x*x) / (i+2 - 2)<=t / (x*x) / i:=by rw [show i+2 - 2=i by omega]; exact Int.le_refl _
 have k:=El t0 pw
 have hp:(2:Int) ^ ((i+2) / 2).toNat*(t / (x*x))<=4*PP:=by
  rw [show ((i+2) / 2).toNat=(i / 2).toNat+1 by omega,Int.pow_succ,Int.mul_assoc]
  have:(2:Int) ^ (i / 2).toNat*(2*(t / (x*x)))<=2 ^ (i / 2).toNat*t:=Int.mul_le_mul_of_nonneg_left b1 (Int.pow_nonneg (by decide))
  omega
 have ht:t<=2*PP:=by
  have h4:(2:Int)*t<=2 ^ (i / 2).toNat*t:=by
   refine Int.mul_le_mul_of_nonneg_right ?_ (by omega)
   have:=Nat.pow_le_pow_right (n:=2) (by decide) (show 1<=(i / 2).toNat by omega)
   have e1:((2 ^ 1:Nat):Int)<=((2 ^ (i / 2).toNat:Nat):Int):=by exact_mod_cast this
   simpa using e1
  omega
 have e2:(i+2)*PP=i*PP+2*PP:=Int.add_mul _ _ _
 have p:=gm
 have tp:0<t / (x*x):=by
  rcases Int.lt_or_eq_of_le b0 with e|e
  .exact e
  .rw [<- e] at h0; simp at h0
 show 0<t / (x*x)/\(i+2) % 2=1/\2<i+2/\i+2<=399/\2 ^ ((i+2) / 2).toNat*(t / (x*x))<=4*PP/\0<=(match decide (i % 4=1) with|true=>s+t / (x*x) / i|false=>s - t / (x*x) / i)/\((i+2) % 4=3->t / (x*x) / (i+2 - 2)<=(match decide (i % 4=1) with|true=>s+t / (x*x) / i|false=>s - t / (x*x) / i))/\(match decide (i % 4=1) with|true=>s+t / (x*x) / i|false=>s - t / (x*x) / i)<=(i+2)*PP
 have h5:0<=(match decide (i % 4=1) with|true=>s+t / (x*x) / i|false=>s - t / (x*x) / i)/\((i+2) % 4=3->t / (x*x) / (i+2 - 2)<=(match decide (i % 4=1) with|true=>s+t / (x*x) / i|false=>s - t / (x*x) / i))/\(match decide (i % 4=1) with|true=>s+t / (x*x) / i|false=>s - t / (x*x) / i)<=(i+2)*PP:=by
  by_cases hm:i % 4=1
  .rw [show (match decide (i % 4=1) with|true=>s+t / (x*x) / i|false=>s - t / (x*x) / i)=s+t / (x*x) / i by rw [decide_eq_true hm]]
   generalize t / (x*x) / i=u at *
   refine ⟨by omega,by omega,by omega⟩
  .have hm3:i % 4=3:=by omega
   have a1:=ts hm3
   have a2:=cm hm3
   rw [show (match decide (i % 4=1) with|true=>s+t / (x*x) / i|false=>s - t / (x*x) / i)=s - t / (x*x) / i by rw [decide_eq_false hm]]
   generalize t / (x*x) / i=u at *
   generalize t / (i - 2)=w at *
   refine ⟨by omega,by omega,by omega⟩
 refine ⟨tp,by omega,by omega,by omega,hp,h5⟩
theorem vH (x:Int):val [x]=x:=by simp [val]
theorem vI {x:Int} (h0:0<=x) (h1:x<1000000000):Dig [x]:=dI.2 ⟨⟨h0,h1⟩,jZ⟩
theorem Vn {x:Int} {one:List Int} (h:ArD x one):CodeOk cZ H5 (.loop arA) (arS x one) ⟨.tt,[⟨.tt,.ret,ae (arS x one) (arX (arR x one none))⟩]⟩:=by
 refine mH (arU x one) (y0:=none) trivial ⟨_,QO x one,rfl⟩ (by kernel_rfl) (fun y hy=>?_) rfl
 have v0:=ai h.d
 have v1:=h.hi
 have yl:=h.l
 have x0:=h.x0
 have x1:=h.x1
 have p:=gm
 obtain ⟨xa,xb,xw⟩:=h.xx
 cases y with
 | none=>
  obtain ⟨q0,q1⟩:=h.q
  have l0:=h.lo
  have e1:val (aa (val one*val [x]).toNat)=val one*x:=by rw [vH,dv (Int.mul_nonneg v0 (by omega))]
  have Q:val (aa (val one*val [x]).toNat) / IntKind.i64.wrap (x*x)=arQ x one:=by rw [e1,xw]; rfl
  have vq:=dv q0
  have vq1:=dv (a:=arQ x one / 1) (by omega)
  have l1:(aa (val one*val [x]).toNat).length<=500000:=by
   rw [vH]
   refine Nat.le_trans (jw (n:=8) (Int.mul_nonneg v0 (by omega)) ?_) (by decide)
   have:=Int.mul_le_mul v1 x1 (by omega) (by omega)
   have e:PP*30000<pw 8:=by decide
   omega
  have lq:=jR q0 (by omega)
  have lq1:=jR (a:=arQ x one / 1) (by omega) (by rw [Int.ediv_one]; omega)
  have lp:=HY l0
  refine ⟨cAr false true,300,Eo _ _,rfl,rfl,_,aav x one,?_,fun _=>?_⟩
  .rw [Q,xw,vq]
   refine ⟨⟨⟨rfl,aC _,l1,by omega,by omega⟩,rfl,aC _,by omega,by decide,by decide⟩,beq_eq_false_iff_ne.2 (by omega),rfl,rfl,jZ,aC _,.inr lp,by decide,by omega⟩
  .rw [Q,vq,vq1]
   have z:val []+arQ x one / 1=arQ x one / 1:=Int.zero_add _
   rw [z]
   exact ⟨⟨⟨rfl,by decide⟩,rfl,rfl,rfl⟩,Nk h,by show (400 - 3:Int).toNat<400; omega,congrArg (fun z=>(Ex.ret,arX z)) (QS h)⟩
 | some y=>
  obtain ⟨i,t,s⟩:=y
  have hI:=hy
  obtain ⟨t0,i0,i1,i2,pw2,s0,ts,sb⟩:=(show 0<t/\i % 2=1/\2<i/\i<=399/\2 ^ (i / 2).toNat*t<=4*PP/\0<=s/\(i % 4=3->t / (i - 2)<=s)/\s<=i*PP from hy)
  have k:=El t0 pw2
  obtain ⟨b0,b1⟩:=H8 (t:=t) (m:=x*x) (by omega) (by omega)
  obtain ⟨c0,c1⟩:=Le (t:=t / (x*x)) (m:=i) b0 (by omega)
  have ht:t<=4*PP:=by
   have h4:(1:Int)*t<=2 ^ (i / 2).toNat*t:=by
    refine Int.mul_le_mul_of_nonneg_right ?_ (by omega)
    have:=Nat.one_le_two_pow (n:=(i / 2).toNat)
    have e1:((1:Nat):Int)<=((2 ^ (i / 2).toNat:Nat):Int):=by exact_mod_cast this
    simpa using e1
   omega
  have hs:s<=400*PP:=by
   have:i*PP<=400*PP:=Int.mul_le_mul_of_nonneg_right (by omega) (by omega)
   omega
  have vt:=dv (a:=t) (by omega)
  have vs:=dv s0
  have vb:=dv b0
  have vc:=dv c0
  have dt:=aC t.toNat
  have ds:=aC s.toNat
  have db:=aC (t / (x*x)).toNat
  have dc:=aC (t / (x*x) / i).toNat
  have lt:=jR (a:=t) (by omega) (by omega)
  have ls:=jR s0 hs
  have lb:=jR b0 (by omega)
  have lc:=jR c0 (by omega)
  have w9:IntKind.i64.wrap (i+2)=i+2:=iw (by omega) (by omega)
  by_cases h0:t / (x*x) / i=0
  .refine ⟨cAr true false,300,Eo _ _,rfl,rfl,_,ack x one i t s,?_,fun _=>⟨⟨rfl,rfl⟩,congrArg (fun z=>(Ex.ret,arX z)) (Vm (by omega) h0)⟩⟩
   rw [vt,xw,vb,h0]
   exact ⟨⟨⟨rfl,dt,by omega,by omega,by omega⟩,rfl,db,by omega,by omega,by omega⟩,by rw [show aa (0:Int).toNat=[] from fq]; rfl⟩
  .have lq:=HY (a:=t / (x*x) / i) (by omega)
   have nx:=QU h hI h0
   have nr:=QT (x:=x) (one:=one) (i:=i) (t:=t) (s:=s) (by omega) (by omega) h0
   have mu:(400 - (i+2)).toNat<(400 - i).toNat:=by omega
   by_cases hm:i % 4=1
   .have e4:(match decide (i % 4=1) with|true=>s+t / (x*x) / i|false=>s - t / (x*x) / i)=s+t / (x*x) / i:=by rw [decide_eq_true hm]
    refine ⟨cAr false true,300,Eo _ _,rfl,rfl,_,aaw x one i t s,?_,fun _=>?_⟩
    .rw [vt,xw,vb]
     refine ⟨⟨⟨rfl,dt,by omega,by omega,by omega⟩,rfl,db,by omega,by omega,by omega⟩,beq_eq_false_iff_ne.2 (by omega),?_,⟨rfl,rfl⟩,ds,dc,.inr lq,by omega,by omega⟩
     rw [Int.tmod_eq_emod_of_nonneg (by omega),hm]; rfl
    .rw [vt,xw,vb,vc,vs]
     exact ⟨⟨⟨congrArg (fun z:Int=>((aa z.toNat).length:Int)) e4.symm,w9⟩,rfl,congrArg (fun z:Int=>aa z.toNat) e4.symm,rfl⟩,nx,mu,congrArg (fun z=>(Ex.ret,arX z)) nr⟩
   .have hm3:i % 4=3:=by omega
    have a1:=ts hm3
    have a2:t / (x*x) / i<=t / (i - 2):=Cv b0 (by omega) (by omega) (by omega)
    have ql:=Yk c0 (show t / (x*x) / i<=s by omega)
    have e4:(match decide (i % 4=1) with|true=>s+t / (x*x) / i|false=>s - t / (x*x) / i)=s - t / (x*x) / i:=by rw [decide_eq_false hm]
    refine ⟨cAr false false,300,Eo _ _,rfl,rfl,_,aax x one i t s,?_,fun _=>?_⟩
    .rw [vt,xw,vb,vc,vs]
     refine ⟨⟨⟨rfl,dt,by omega,by omega,by omega⟩,rfl,db,by omega,by omega,by omega⟩,beq_eq_false_iff_ne.2 (by omega),?_,⟨rfl,rfl⟩,ds,dc,by omega,by omega,ql,by omega⟩
     rw [Int.tmod_eq_emod_of_nonneg (by omega),hm3]; rfl
    .rw [vt,xw,vb,vc,vs]
     exact ⟨⟨⟨congrArg (fun z:Int=>((aa z.toNat).length:Int)) e4.symm,w9⟩,rfl,congrArg (fun z:Int=>aa z.toNat) e4.symm,rfl⟩,nx,mu,congrArg (fun z=>(Ex.ret,arX z)) nr⟩
noncomputable def Yv (x:Int) (one:List Int):Ctx:=bu cZ [cK 151 (arS x one).hp.clock H5 arA (arS x one) .ret (arX (arR x one none))]
theorem Vo {x:Int} {one:List Int} (h:ArD x one):CtxOk (Yv x one):=aQ qi (Vn h) (dG qi)
def Vp (x:Int) (one:List Int):Prop:=(((↑one.length:Int)=(↑one.length:Int)/\Dig one/\Dig [x]/\one.length + [x].length<=(500000:Nat))/\At (H5) (H5) (arA) (arA) (arS x one) (arS x one))
def Yw (x:Int) (one:List Int):AV:=(AV.lslice 1 (↑(aa (arR x one none).toNat).length:Int))
def Yx (x:Int) (one:List Int):Hp:=⟨[{ wr:=15,body:=ABody.rows IntKind.i64 (aa (arR x one none).toNat) },{ wr:=(0:Nat),body:=ABody.rows IntKind.i64 one }],2,16⟩
theorem acl (x:Int) (one:List Int):(run (Yv x one) 300).call 151 (JH x one) (zH one)=some ⟨.p (Vp x one),[⟨.tt,Yw x one,Yx x one⟩]⟩:=by kernel_rfl
def Yy:List Nu->List (List Int)->Option (Prop×To)
 | [.n x],[one]=>some (ArD x one,.li false (aa (df x 200 1 (val one*x) 0).toNat))
 | _,_=>none
theorem Yz:NOk Tryz.prog (fun _=>none) hG0 151 (eT hG0 .i64 [.nu (.i .i64),.li] Yy):=by
 refine fJ (fun xs ys p t e h=>?_) ⟨_,Tryz.func151,rfl⟩
 unfold Yy at e
 split at e
 .rename_i x one
  cases e
  have hl:=h.l
  have x0:=h.x0
  have x1:=h.x1
  refine ⟨Yv x one,300,JH x one,_,_,_,_,_,Vo h,rfl,rfl,⟨⟨rfl,rfl⟩,rfl,trivial⟩,acl x one,rfl,⟨⟨rfl,h.d,vI (by omega) (by omega),by show _+1<=_; omega⟩,⟨rfl,rfl,rfl⟩⟩,rfl,rfl,?_⟩
  exact ⟨rfl,rfl⟩
 .cases e
def tZ3:List (FuncId×kU):=(151,eT hG0 .i64 [.nu (.i .i64),.li] Yy) :: (146,eT hG0 .i64 [.li,.nu (.i .i64)] Yu) :: tZ2
theorem QV:∀ x∈tZ3,NOk Tryz.prog (fun _=>none) hG0 x.1 x.2:=by
 intro x hx
 rcases List.mem_cons.1 hx with rfl|hx
 .exact Yz
 rcases List.mem_cons.1 hx with rfl|hx
 .exact Vk
 exact Yp x hx
def cZ3:Ctx:=mkN Tryz.prog (fun _=>none) hG0 tZ3 [] lJ
theorem YA:CtxOk cZ3:=wM prog_ok (pX _) QV (fun x h=>by cases h)
def AB (one:List Int):Prop:=(((↑one.length:Int)=(↑one.length:Int)/\ArD (5:Int) one)/\((↑(aa (df (5:Int) (200:Nat) (1:Int) (val one*(5:Int)) (0:Int)).toNat).length:Int)=(↑(aa (df (5:Int) (200:Nat) (1:Int) (val one*(5:Int)) (0:Int)).toNat).length:Int)/\Dig (aa (df (5:Int) (200:Nat) (1:Int) (val one*(5:Int)) (0:Int)).toNat)/\Dig [(8:Int)]/\(aa (df (5:Int) (200:Nat) (1:Int) (val one*(5:Int)) (0:Int)).toNat).length + [(8:Int)].length<=(500000:Nat))/\((↑one.length:Int)=(↑one.length:Int)/\ArD (239:Int) one)/\((↑(aa (df (239:Int) (200:Nat) (1:Int) (val one*(239:Int)) (0:Int)).toNat).length:Int)=(↑(aa (df (239:Int) (200:Nat) (1:Int) (val one*(239:Int)) (0:Int)).toNat).length:Int)/\Dig (aa (df (239:Int) (200:Nat) (1:Int) (val one*(239:Int)) (0:Int)).toNat)/\Dig [(2:Int)]/\(aa (df (239:Int) (200:Nat) (1:Int) (val one*(239:Int)) (0:Int)).toNat).length + [(2:Int)].length<=(500000:Nat))/\((↑(aa (val (aa (df (5:Int) (200:Nat) (1:Int) (val one*(5:Int)) (0:Int)).toNat)*val [(8:Int)]).toNat).length:Int)=(↑(aa (val (aa (df (5:Int) (200:Nat) (1:Int) (val one*(5:Int)) (0:Int)).toNat)*val [(8:Int)]).toNat).length:Int)/\(↑(aa (val (aa (df (239:Int) (200:Nat) (1:Int) (val one*(239:Int)) (0:Int)).toNat)*val [(2:Int)]).toNat).length:Int)=(↑(aa (val (aa (df (239:Int) (200:Nat) (1:Int) (val one*(239:Int)) (0:Int)).toNat)*val [(2:Int)]).toNat).length:Int))/\Dig (aa (val (aa (df (5:Int) (200:Nat) (1:Int) (val one*(5:Int)) (0:Int)).toNat)*val [(8:Int)]).toNat)/\Dig (aa (val (aa (df (239:Int) (200:Nat) (1:Int) (val one*(239:Int)) (0:Int)).toNat)*val [(2:Int)]).toNat)/\(0:Nat)<(aa (val (aa (df (5:Int) (200:Nat) (1:Int) (val one*(5:Int)) (0:Int)).toNat)*val [(8:Int)]).toNat).length/\(aa (val (aa (df (5:Int) (200:Nat) (1:Int) (val one*(5:Int)) (0:Int)).toNat)*val [(8:Int)]).toNat).length<=(500000:Nat)/\(aa (val (aa (df (239:Int) (200:Nat) (1:Int) (val one*(239:Int)) (0:Int)).toNat)*val [(2:Int)]).toNat).length<=(aa (val (aa (df (5:Int) (200:Nat) (1:Int) (val one*(5:Int)) (0:Int)).toNat)*val [(8:Int)]).toNat).length/\val (aa (val (aa (df (239:Int) (200:Nat) (1:Int) (val one*(239:Int)) (0:Int)).toNat)*val [(2:Int)]).toNat)<=val (aa (val (aa (df (5:Int) (200:Nat) (1:Int) (val one*(5:Int)) (0:Int)).toNat)*val [(8:Int)]).toNat))
def Nl (one:List Int):AV:=(AV.lslice 1 (↑(aa (val (aa (val (aa (df (5:Int) (200:Nat) (1:Int) (val one*(5:Int)) (0:Int)).toNat)*val [(8:Int)]).toNat) - val (aa (val (aa (df (239:Int) (200:Nat) (1:Int) (val one*(239:Int)) (0:Int)).toNat)*val [(2:Int)]).toNat)).toNat).length:Int))
def Nn (one:List Int):Hp:=⟨[{ wr:=12,body:=ABody.rows IntKind.i64 (aa (val (aa (val (aa (df (5:Int) (200:Nat) (1:Int) (val one*(5:Int)) (0:Int)).toNat)*val [(8:Int)]).toNat) - val (aa (val (aa (df (239:Int) (200:Nat) (1:Int) (val one*(239:Int)) (0:Int)).toNat)*val [(2:Int)]).toNat)).toNat) },{ wr:=(0:Nat),body:=ABody.rows IntKind.i64 one }],2,13⟩
theorem Vq (one:List Int):(run cZ3 300).call 140 [.lslice 0 one.length] (zH one)=some ⟨.p (AB one),[⟨.tt,Nl one,Nn one⟩]⟩:=by kernel_rfl
def RGT:Int:=1570796326794896619231321691639751442098584716
def YB:List Nu->List (List Int)->Option (Prop×To)
 | [],[one]=>some (Dig one/\one.length<=100/\val one=PP,.li false (aa RGT.toNat))
 | _,_=>none
theorem aay:df 5 200 1 (PP*5) 0=197395559849880758370049765194790293447585106:=by kernel_rfl
theorem Vr:df 239 200 1 (PP*239) 0=4184076002074723864538214959285452741048066:=by kernel_rfl
theorem YC:NOk Tryz.prog (fun _=>none) hG0 140 (eT hG0 .i64 [.li] YB):=by
 refine fJ (fun xs ys p t e h=>?_) ⟨_,Tryz.func140,rfl⟩
 unfold YB at e
 split at e
 .rename_i one
  cases e
  obtain ⟨hd,hl,hv⟩:=h
  have d5:ArD 5 one:=⟨hd,hl,by omega,by decide,by decide,by unfold arQ; rw [hv]; decide⟩
  have d239:ArD 239 one:=⟨hd,hl,by omega,by decide,by decide,by unfold arQ; rw [hv]; decide⟩
  have e5:df 5 200 1 (val one*5) 0=197395559849880758370049765194790293447585106:=by rw [hv]; exact aay
  have e239:df 239 200 1 (val one*239) 0=4184076002074723864538214959285452741048066:=by rw [hv]; exact Vr
  have v5:val (aa (Int.toNat 197395559849880758370049765194790293447585106))=197395559849880758370049765194790293447585106:=dv (by decide)
  have v239:val (aa (Int.toNat 4184076002074723864538214959285452741048066))=4184076002074723864538214959285452741048066:=dv (by decide)
  have e8:val [8]=8:=vH 8
  have e2:val [2]=2:=vH 2
  have l5:(aa (Int.toNat 197395559849880758370049765194790293447585106)).length<=6:=jR (a:=197395559849880758370049765194790293447585106) (by decide) (by decide)
  have l239:(aa (Int.toNat 4184076002074723864538214959285452741048066)).length<=6:=jR (a:=4184076002074723864538214959285452741048066) (by decide) (by decide)
  have la:(aa (Int.toNat (197395559849880758370049765194790293447585106*8))).length<=6:=jR (a:=197395559849880758370049765194790293447585106*8) (by decide) (by decide)
  have lb:(aa (Int.toNat (4184076002074723864538214959285452741048066*2))).length<=(aa (Int.toNat (197395559849880758370049765194790293447585106*8))).length:=Yk (a:=4184076002074723864538214959285452741048066*2) (b:=197395559849880758370049765194790293447585106*8) (by decide) (by decide)
  have l0:0<(aa (Int.toNat (197395559849880758370049765194790293447585106*8))).length:=HY (a:=197395559849880758370049765194790293447585106*8) (by decide)
  have va:val (aa (Int.toNat (197395559849880758370049765194790293447585106*8)))=197395559849880758370049765194790293447585106*8:=dv (by decide)
  have vb:val (aa (Int.toNat (4184076002074723864538214959285452741048066*2)))=4184076002074723864538214959285452741048066*2:=dv (by decide)
  refine ⟨cZ3,300,[.lslice 0 one.length],_,_,_,_,_,YA,rfl,rfl,⟨rfl,trivial⟩,Vq one,rfl,?_,rfl,rfl,?_⟩
  .unfold AB
   rw [e5,e239,v5,v239,e8,e2,va,vb]
   refine ⟨⟨rfl,d5⟩,⟨rfl,aC _,vI (by decide) (by decide),by show _+1<=_; omega⟩,⟨rfl,d239⟩,⟨rfl,aC _,vI (by decide) (by decide),by show _+1<=_; omega⟩,⟨rfl,rfl⟩,aC _,aC _,l0,by omega,lb,by decide⟩
  .refine ⟨rfl,?_⟩
   show aa (val (aa (val (aa (df 5 200 1 (val one*5) 0).toNat)*val [8]).toNat) - val (aa (val (aa (df 239 200 1 (val one*239) 0).toNat)*val [2]).toNat)).toNat=_
   rw [e5,e239,v5,v239,e8,e2,va,vb]
   rfl
 .cases e
def cOv:Ctx:=cZb [(18,false),(24,true)]
theorem YD:CtxOk cOv:=JF _
def Vt (a b:List Int):Prop:=(((((↑a.length:Int)=(↑a.length:Int)/\(↑b.length:Int)=(↑b.length:Int))/\Sm a/\Sm b)/\decide (rz a b<(0:Int))=false)/\((↑b.length:Int)==(1:Int))=true/\((0:Int)<=(0:Int)/\(0:Int)<(↑b.length:Int))/\Int.toNat (0:Int)<b.length/\(↑a.length:Int)=(↑a.length:Int)/\Dig a/\a.length<=(500000:Nat)/\(1:Int)<=b.getD (Int.toNat (0:Int)) (0:Int)/\b.getD (Int.toNat (0:Int)) (0:Int)<=(1000000000:Int))
def YE (a b:List Int):AV:=(AV.tuple [AV.lslice 2 (↑(aa (val a / b.getD (Int.toNat (0:Int)) (0:Int)).toNat).length:Int),AV.any true])
def YF (a b:List Int):Hp:=⟨[{ wr:=21,body:=ABody.rows IntKind.i64 (aa (val a / b.getD (Int.toNat (0:Int)) (0:Int)).toNat) },{ wr:=(0:Nat),body:=ABody.rows IntKind.i64 b },{ wr:=(0:Nat),body:=ABody.rows IntKind.i64 a }],3,69⟩
theorem acm (a b:List Int):(run cOv 300).call 143 (zB a b) (zG a b)=some ⟨.p (Vt a b),[⟨.tt,YE a b,YF a b⟩]⟩:=by kernel_rfl
theorem QW {b:List Int} (h:b.length=1):val b=b.getD 0 0:=by
 match b,h with
 | [x],_=>simp [val]
def Vu:List (Nat×Nat×Nat×AV)->Nat->Nat->Option AV
 | [],_,_=>none
 | (a,b,t',v) :: l,c,t=>match Nat.beq t t'&&Nat.ble a c&&Nat.ble c b with
  | true=>some v
  | false=>Vu l c t
def oA1:List Int:=[394338864,559005768,925286766,179586476,283185307,6]
def oB1:List Int:=[294967296,4]
def oH1:List (Nat×Nat×Nat×AV):=[(0,10,17,.int false .i64 2),(11,31,18,.bool false false),(20,31,43,.int false .i64 4),(32,194,11,.int false .i64 6),(195,264,11,.int false .i64 2),(32,194,15,.int false .i64 6),(195,264,15,.int false .i64 2),(32,194,36,.int false .i64 6),(195,264,36,.int false .i64 2),(42,65,20,.int false .i64 394338864),(66,89,20,.int false .i64 559005768),(90,113,20,.int false .i64 925286766),(114,137,20,.int false .i64 179586476),(138,161,20,.int false .i64 283185307),(162,185,20,.int false .i64 6),(206,229,20,.int false .i64 294967296),(230,253,20,.int false .i64 4),(265,294,55,.int false .i64 6)]
def cO1:Ctx:=gK cZ (Vu oH1)
theorem YG:CtxOk cO1:=cz qi _
def oA2:List Int:=[711109072,823253194,522842290,119904847,977824172,746518845,6]
def oB2:List Int:=[294967296,4]
def oH2:List (Nat×Nat×Nat×AV):=[(0,10,17,.int false .i64 2),(11,31,18,.bool false false),(20,31,43,.int false .i64 4),(32,218,11,.int false .i64 7),(219,288,11,.int false .i64 2),(32,218,15,.int false .i64 7),(219,288,15,.int false .i64 2),(32,218,36,.int false .i64 7),(219,288,36,.int false .i64 2),(42,65,20,.int false .i64 711109072),(66,89,20,.int false .i64 823253194),(90,113,20,.int false .i64 522842290),(114,137,20,.int false .i64 119904847),(138,161,20,.int false .i64 977824172),(162,185,20,.int false .i64 746518845),(186,209,20,.int false .i64 6),(230,253,20,.int false .i64 294967296),(254,277,20,.int false .i64 4),(289,318,55,.int false .i64 7)]
def cO2:Ctx:=gK cZ (Vu oH2)
theorem YH:CtxOk cO2:=cz qi _
def oA3:List Int:=[552723968,691129481,224064528,649745662,130504739,373259426,3]
def oB3:List Int:=[221225472,3]
def oH3:List (Nat×Nat×Nat×AV):=[(0,10,17,.int false .i64 2),(11,31,18,.bool false false),(20,31,43,.int false .i64 3),(32,218,11,.int false .i64 7),(219,288,11,.int false .i64 2),(32,218,15,.int false .i64 7),(219,288,15,.int false .i64 2),(32,218,36,.int false .i64 7),(219,288,36,.int false .i64 2),(42,65,20,.int false .i64 552723968),(66,89,20,.int false .i64 691129481),(90,113,20,.int false .i64 224064528),(114,137,20,.int false .i64 649745662),(138,161,20,.int false .i64 130504739),(162,185,20,.int false .i64 373259426),(186,209,20,.int false .i64 3),(230,253,20,.int false .i64 221225472),(254,277,20,.int false .i64 3),(289,318,55,.int false .i64 7)]
def cO3:Ctx:=gK cZ (Vu oH3)
theorem YI:CtxOk cO3:=cz qi _
def Ep (z:Int):Prop:=((↑oB1.length:Int)=(2:Int)/\((((↑oA1.length:Int)=(↑oA1.length:Int)/\(↑oB1.length:Int)=(↑oB1.length:Int))/\Sm oA1/\Sm oB1)/\decide (rz oA1 oB1<(0:Int))=false)/\(((0:Int)<=Int.ofNat 1/\Int.ofNat 1<(↑oB1.length:Int))/\(Int.ofNat 1).toNat<oB1.length/\oB1.getD (Int.ofNat 1).toNat (0:Int)=(4:Int))/\(((↑oA1.length:Int)=(6:Int)/\((↑oA1.length:Int)=(6:Int)/\(((0:Int)<=(0:Int)/\(0:Int)<(↑oA1.length:Int))/\Int.toNat (0:Int)<oA1.length/\oA1.getD (Int.toNat (0:Int)) (0:Int)=(394338864:Int))/\(((0:Int)<=Int.ofNat 1/\Int.ofNat 1<(↑oA1.length:Int))/\(Int.ofNat 1).toNat<oA1.length/\oA1.getD (Int.ofNat 1).toNat (0:Int)=(559005768:Int))/\(((0:Int)<=Int.ofNat 2/\Int.ofNat 2<(↑oA1.length:Int))/\(Int.ofNat 2).toNat<oA1.length/\oA1.getD (Int.ofNat 2).toNat (0:Int)=(925286766:Int))/\(((0:Int)<=Int.ofNat 3/\Int.ofNat 3<(↑oA1.length:Int))/\(Int.ofNat 3).toNat<oA1.length/\oA1.getD (Int.ofNat 3).toNat (0:Int)=(179586476:Int))/\(((0:Int)<=Int.ofNat 4/\Int.ofNat 4<(↑oA1.length:Int))/\(Int.ofNat 4).toNat<oA1.length/\oA1.getD (Int.ofNat 4).toNat (0:Int)=(283185307:Int))/\((0:Int)<=Int.ofNat 5/\Int.ofNat 5<(↑oA1.length:Int))/\(Int.ofNat 5).toNat<oA1.length/\oA1.getD (Int.ofNat 5).toNat (0:Int)=(6:Int))/\(↑oA1.length:Int)=(6:Int))/\(↑oB1.length:Int)=(2:Int)/\((↑oB1.length:Int)=(2:Int)/\(((0:Int)<=(0:Int)/\(0:Int)<(↑oB1.length:Int))/\Int.toNat (0:Int)<oB1.length/\oB1.getD (Int.toNat (0:Int)) (0:Int)=(294967296:Int))/\((0:Int)<=Int.ofNat 1/\Int.ofNat 1<(↑oB1.length:Int))/\(Int.ofNat 1).toNat<oB1.length/\oB1.getD (Int.ofNat 1).toNat (0:Int)=(4:Int))/\(↑oB1.length:Int)=(2:Int))/\(↑oA1.length:Int)=(6:Int)/\Dig [Int.ofNat 400000000,Int.ofNat 45323990]/\[Int.ofNat 400000000,Int.ofNat 45323990].length<=(500000:Nat)/\(1:Int)<=Int.ofNat 200000000/\Int.ofNat 200000000<=(1000000000:Int))
def YJ (z:Int):AV:=(AV.tuple [AV.slice 2 (0:Nat) 5 5,AV.lslice 3 (↑(aa (val [Int.ofNat 400000000,Int.ofNat 45323990] / Int.ofNat 200000000).toNat).length:Int)])
def YK (z:Int):Hp:=⟨[{ wr:=1190,body:=ABody.rows IntKind.i64 (aa (val [Int.ofNat 400000000,Int.ofNat 45323990] / Int.ofNat 200000000).toNat) },{ wr:=1162,body:=ABody.cells [AV.int false IntKind.i64 (Int.ofNat 309792297),AV.int false IntKind.i64 (Int.ofNat 51337804),AV.int false IntKind.i64 (Int.ofNat 267159681),AV.int false IntKind.i64 (Int.ofNat 462918079),AV.int false IntKind.i64 (Int.ofNat 1)] },{ wr:=(0:Nat),body:=ABody.rows IntKind.i64 [(294967296:Int),(4:Int)] },{ wr:=(0:Nat),body:=ABody.rows IntKind.i64 [(394338864:Int),(559005768:Int),(925286766:Int),(179586476:Int),(283185307:Int),(6:Int)] }],4,1216⟩
theorem acn (z:Int):(run cO1 300).call 143 (zB oA1 oB1) (zG oA1 oB1)=some ⟨.p (Ep z),[⟨.tt,YJ z,YK z⟩]⟩:=by kernel_rfl
def Er (z:Int):Prop:=((↑oB2.length:Int)=(2:Int)/\((((↑oA2.length:Int)=(↑oA2.length:Int)/\(↑oB2.length:Int)=(↑oB2.length:Int))/\Sm oA2/\Sm oB2)/\decide (rz oA2 oB2<(0:Int))=false)/\(((0:Int)<=Int.ofNat 1/\Int.ofNat 1<(↑oB2.length:Int))/\(Int.ofNat 1).toNat<oB2.length/\oB2.getD (Int.ofNat 1).toNat (0:Int)=(4:Int))/\(((↑oA2.length:Int)=(7:Int)/\((↑oA2.length:Int)=(7:Int)/\(((0:Int)<=(0:Int)/\(0:Int)<(↑oA2.length:Int))/\Int.toNat (0:Int)<oA2.length/\oA2.getD (Int.toNat (0:Int)) (0:Int)=(711109072:Int))/\(((0:Int)<=Int.ofNat 1/\Int.ofNat 1<(↑oA2.length:Int))/\(Int.ofNat 1).toNat<oA2.length/\oA2.getD (Int.ofNat 1).toNat (0:Int)=(823253194:Int))/\(((0:Int)<=Int.ofNat 2/\Int.ofNat 2<(↑oA2.length:Int))/\(Int.ofNat 2).toNat<oA2.length/\oA2.getD (Int.ofNat 2).toNat (0:Int)=(522842290:Int))/\(((0:Int)<=Int.ofNat 3/\Int.ofNat 3<(↑oA2.length:Int))/\(Int.ofNat 3).toNat<oA2.length/\oA2.getD (Int.ofNat 3).toNat (0:Int)=(119904847:Int))/\(((0:Int)<=Int.ofNat 4/\Int.ofNat 4<(↑oA2.length:Int))/\(Int.ofNat 4).toNat<oA2.length/\oA2.getD (Int.ofNat 4).toNat (0:Int)=(977824172:Int))/\(((0:Int)<=Int.ofNat 5/\Int.ofNat 5<(↑oA2.length:Int))/\(Int.ofNat 5).toNat<oA2.length/\oA2.getD (Int.ofNat 5).toNat (0:Int)=(746518845:Int))/\((0:Int)<=Int.ofNat 6/\Int.ofNat 6<(↑oA2.length:Int))/\(Int.ofNat 6).toNat<oA2.length/\oA2.getD (Int.ofNat 6).toNat (0:Int)=(6:Int))/\(↑oA2.length:Int)=(7:Int))/\(↑oB2.length:Int)=(2:Int)/\((↑oB2.length:Int)=(2:Int)/\(((0:Int)<=(0:Int)/\(0:Int)<(↑oB2.length:Int))/\Int.toNat (0:Int)<oB2.length/\oB2.getD (Int.toNat (0:Int)) (0:Int)=(294967296:Int))/\((0:Int)<=Int.ofNat 1/\Int.ofNat 1<(↑oB2.length:Int))/\(Int.ofNat 1).toNat<oB2.length/\oB2.getD (Int.ofNat 1).toNat (0:Int)=(4:Int))/\(↑oB2.length:Int)=(2:Int))/\(↑oA2.length:Int)=(7:Int)/\Dig [Int.ofNat 800000000,Int.ofNat 813669468]/\[Int.ofNat 800000000,Int.ofNat 813669468].length<=(500000:Nat)/\(1:Int)<=Int.ofNat 200000000/\Int.ofNat 200000000<=(1000000000:Int))
def YL (z:Int):AV:=(AV.tuple [AV.slice 2 (0:Nat) 6 6,AV.lslice 3 (↑(aa (val [Int.ofNat 800000000,Int.ofNat 813669468] / Int.ofNat 200000000).toNat).length:Int)])
def YM (z:Int):Hp:=⟨[{ wr:=1469,body:=ABody.rows IntKind.i64 (aa (val [Int.ofNat 800000000,Int.ofNat 813669468] / Int.ofNat 200000000).toNat) },{ wr:=1441,body:=ABody.cells [AV.int false IntKind.i64 (Int.ofNat 788792418),AV.int false IntKind.i64 (Int.ofNat 588413637),AV.int false IntKind.i64 (Int.ofNat 964162010),AV.int false IntKind.i64 (Int.ofNat 331978539),AV.int false IntKind.i64 (Int.ofNat 570796325),AV.int false IntKind.i64 (Int.ofNat 1)] },{ wr:=(0:Nat),body:=ABody.rows IntKind.i64 [(294967296:Int),(4:Int)] },{ wr:=(0:Nat),body:=ABody.rows IntKind.i64 [(711109072:Int),(823253194:Int),(522842290:Int),(119904847:Int),(977824172:Int),(746518845:Int),(6:Int)] }],4,1495⟩
theorem aco (z:Int):(run cO2 300).call 143 (zB oA2 oB2) (zG oA2 oB2)=some ⟨.p (Er z),[⟨.tt,YL z,YM z⟩]⟩:=by kernel_rfl
def Es (z:Int):Prop:=((↑oB3.length:Int)=(2:Int)/\((((↑oA3.length:Int)=(↑oA3.length:Int)/\(↑oB3.length:Int)=(↑oB3.length:Int))/\Sm oA3/\Sm oB3)/\decide (rz oA3 oB3<(0:Int))=false)/\(((0:Int)<=Int.ofNat 1/\Int.ofNat 1<(↑oB3.length:Int))/\(Int.ofNat 1).toNat<oB3.length/\oB3.getD (Int.ofNat 1).toNat (0:Int)=(3:Int))/\(((↑oA3.length:Int)=(7:Int)/\((↑oA3.length:Int)=(7:Int)/\(((0:Int)<=(0:Int)/\(0:Int)<(↑oA3.length:Int))/\Int.toNat (0:Int)<oA3.length/\oA3.getD (Int.toNat (0:Int)) (0:Int)=(552723968:Int))/\(((0:Int)<=Int.ofNat 1/\Int.ofNat 1<(↑oA3.length:Int))/\(Int.ofNat 1).toNat<oA3.length/\oA3.getD (Int.ofNat 1).toNat (0:Int)=(691129481:Int))/\(((0:Int)<=Int.ofNat 2/\Int.ofNat 2<(↑oA3.length:Int))/\(Int.ofNat 2).toNat<oA3.length/\oA3.getD (Int.ofNat 2).toNat (0:Int)=(224064528:Int))/\(((0:Int)<=Int.ofNat 3/\Int.ofNat 3<(↑oA3.length:Int))/\(Int.ofNat 3).toNat<oA3.length/\oA3.getD (Int.ofNat 3).toNat (0:Int)=(649745662:Int))/\(((0:Int)<=Int.ofNat 4/\Int.ofNat 4<(↑oA3.length:Int))/\(Int.ofNat 4).toNat<oA3.length/\oA3.getD (Int.ofNat 4).toNat (0:Int)=(130504739:Int))/\(((0:Int)<=Int.ofNat 5/\Int.ofNat 5<(↑oA3.length:Int))/\(Int.ofNat 5).toNat<oA3.length/\oA3.getD (Int.ofNat 5).toNat (0:Int)=(373259426:Int))/\((0:Int)<=Int.ofNat 6/\Int.ofNat 6<(↑oA3.length:Int))/\(Int.ofNat 6).toNat<oA3.length/\oA3.getD (Int.ofNat 6).toNat (0:Int)=(3:Int))/\(↑oA3.length:Int)=(7:Int))/\(↑oB3.length:Int)=(2:Int)/\((↑oB3.length:Int)=(2:Int)/\(((0:Int)<=(0:Int)/\(0:Int)<(↑oB3.length:Int))/\Int.toNat (0:Int)<oB3.length/\oB3.getD (Int.toNat (0:Int)) (0:Int)=(221225472:Int))/\((0:Int)<=Int.ofNat 1/\Int.ofNat 1<(↑oB3.length:Int))/\(Int.ofNat 1).toNat<oB3.length/\oB3.getD (Int.ofNat 1).toNat (0:Int)=(3:Int))/\(↑oB3.length:Int)=(2:Int))/\(↑oA3.length:Int)=(7:Int)/\Dig ([]:List Int)/\([]:List Int).length<=(500000:Nat)/\(1:Int)<=Int.ofNat 250000000/\Int.ofNat 250000000<=(1000000000:Int))
def YN (z:Int):AV:=(AV.tuple [AV.slice 2 (0:Nat) 6 6,AV.lslice 3 (↑(aa (val ([]:List Int) / Int.ofNat 250000000).toNat).length:Int)])
def YO (z:Int):Hp:=⟨[{ wr:=1393,body:=ABody.rows IntKind.i64 (aa (val ([]:List Int) / Int.ofNat 250000000).toNat) },{ wr:=1327,body:=ABody.cells [AV.int false IntKind.i64 (Int.ofNat 65723144),AV.int false IntKind.i64 (Int.ofNat 93167628),AV.int false IntKind.i64 (Int.ofNat 154214461),AV.int false IntKind.i64 (Int.ofNat 196597746),AV.int false IntKind.i64 (Int.ofNat 47197551),AV.int false IntKind.i64 (Int.ofNat 1)] },{ wr:=(0:Nat),body:=ABody.rows IntKind.i64 [(221225472:Int),(3:Int)] },{ wr:=(0:Nat),body:=ABody.rows IntKind.i64 [(552723968:Int),(691129481:Int),(224064528:Int),(649745662:Int),(130504739:Int),(373259426:Int),(3:Int)] }],4,1419⟩
theorem acp (z:Int):(run cO3 300).call 143 (zB oA3 oB3) (zG oA3 oB3)=some ⟨.p (Es z),[⟨.tt,YN z,YO z⟩]⟩:=by kernel_rfl
def OvC (a b:List Int):Prop:=(a=oA1/\b=oB1)\/(a=oA2/\b=oB2)\/(a=oA3/\b=oB3)
theorem JI {l:List Int} (h:Nat.ble l.length 500000=true):Sm l:=Nat.le_of_ble_eq_true h
theorem Et {x y:Int} (h:0<=x/\x<1000000000/\0<=y/\y<1000000000):Dig [x,y]:=dI.2 ⟨⟨h.1,h.2.1⟩,vI h.2.2.1 h.2.2.2⟩
theorem Np (z:Int):Ep z:=by
 unfold Ep
 and_intros <;> first|rfl|exact JI rfl|exact jZ|decide|exact Et (by decide)
theorem Nq (z:Int):Er z:=by
 unfold Er
 and_intros <;> first|rfl|exact JI rfl|exact jZ|decide|exact Et (by decide)
theorem Nr (z:Int):Es z:=by
 unfold Es
 and_intros <;> first|rfl|exact JI rfl|exact jZ|decide|exact Et (by decide)
def YP:List Nu->List (List Int)->Option (Prop×To)
 | [],[a,b]=>some ((Dig a/\Dig b/\Top a/\Top b/\a.length<=500000/\b.length=1/\0<val b/\val b<=val a)\/OvC a b,.tu [.li false (aa (val a / val b).toNat),.any])
 | _,_=>none
theorem aaz:aa (val oA1 / val oB1).toNat=[309792297,51337804,267159681,462918079,1]:=mQ (l:=[309792297,51337804,267159681,462918079,1]) (fun x hx=>by simp at hx; omega) (by unfold Top; decide)
theorem aaA:aa (val oA2 / val oB2).toNat=[788792418,588413637,964162010,331978539,570796325,1]:=mQ (l:=[788792418,588413637,964162010,331978539,570796325,1]) (fun x hx=>by simp at hx; omega) (by unfold Top; decide)
theorem aaB:aa (val oA3 / val oB3).toNat=[65723144,93167628,154214461,196597746,47197551,1]:=mQ (l:=[65723144,93167628,154214461,196597746,47197551,1]) (fun x hx=>by simp at hx; omega) (by unfold Top; decide)
theorem QX:NOk Tryz.prog (fun _=>none) hG0 143 (eT hG0 .i64 [.li,.li] YP):=by
 refine fJ (fun xs ys p t e h=>?_) ⟨_,Tryz.func143,rfl⟩
 unfold YP at e
 split at e
 .rename_i a b
  cases e
  rcases h with ⟨ha,hb,ta,tb,la,lb,h0,h1⟩|⟨rfl,rfl⟩|⟨rfl,rfl⟩|⟨rfl,rfl⟩
  .have e1:=QW lb
   have g:=hb.get 0
   have hc:¬ rz a b<0:=fun hh=>by have:=(UX ha hb ta tb la (by omega)).1 hh; omega
   refine ⟨cOv,300,zB a b,_,_,_,_,_,YD,rfl,rfl,⟨rfl,rfl,trivial⟩,acm a b,rfl,⟨⟨⟨⟨rfl,rfl⟩,la,by show _<=_; omega⟩,decide_eq_false hc⟩,beq_iff_eq.2 (by omega),⟨by decide,by omega⟩,by show 0<_; omega,rfl,ha,la,by show 1<=b.getD 0 0; omega,by show b.getD 0 0<=_; omega⟩,rfl,rfl,rfl,?_⟩
   show aa (val a / b.getD 0 0).toNat=_
   rw [e1]
  .refine ⟨cO1,300,zB oA1 oB1,_,_,_,_,_,YG,rfl,rfl,⟨rfl,rfl,trivial⟩,acn 0,rfl,Np 0,rfl,rfl,?_⟩
   exact aaz.symm
  .refine ⟨cO2,300,zB oA2 oB2,_,_,_,_,_,YH,rfl,rfl,⟨rfl,rfl,trivial⟩,aco 0,rfl,Nq 0,rfl,rfl,?_⟩
   exact aaA.symm
  .refine ⟨cO3,300,zB oA3 oB3,_,_,_,_,_,YI,rfl,rfl,⟨rfl,rfl,trivial⟩,acp 0,rfl,Nr 0,rfl,rfl,?_⟩
   exact aaB.symm
 .cases e
def tZ4:List (FuncId×kU):=(143,eT hG0 .i64 [.li,.li] YP) :: (140,eT hG0 .i64 [.li] YB) :: tZ3
theorem YQ:∀ x∈tZ4,NOk Tryz.prog (fun _=>none) hG0 x.1 x.2:=by
 intro x hx
 rcases List.mem_cons.1 hx with rfl|hx
 .exact QX
 rcases List.mem_cons.1 hx with rfl|hx
 .exact YC
 exact QV x hx
def cZ4:Ctx:=mkN Tryz.prog (fun _=>none) hG0 tZ4 [] lJ
theorem YR:CtxOk cZ4:=wM prog_ok (pX _) YQ (fun x h=>by cases h)
def cQu (l:List (Nat×Bool)):Ctx:=gK cZ4 (hZ (l.map fun x=>(x.1,match x.2 with|true=>.bool false true|false=>.bool false false)))
theorem Eu (l:List (Nat×Bool)):CtxOk (cQu l):=cz YR _
def Ew (m d:Int):List AV:=[.int true .i64 m,.int true .i64 d]
def quY (m d:Int):List Int:=aa (val (aa (val (aa RGT.toNat)*val (aa m.toNat)).toNat) / val (aa d.toNat)).toNat
def quS (m d:Int):List Int:=aa (seR (quY m d) none).toNat
def Lf (m d:Int):Prop:=(((m==(0:Int))=false/\(m==d)=false/\(IntKind.i64.wrap ((3:Int)*m)==d)=false)/\((Dig [(0:Int),(0:Int),(0:Int),(0:Int),(0:Int),(1:Int)]/\[(0:Int),(0:Int),(0:Int),(0:Int),(0:Int),(1:Int)].length<=(100:Nat)/\val [(0:Int),(0:Int),(0:Int),(0:Int),(0:Int),(1:Int)]=PP)/\((0:Int)<m/\m<(1000000000000000000:Int))/\(((↑(aa RGT.toNat).length:Int)=(↑(aa RGT.toNat).length:Int)/\(↑(aa m.toNat).length:Int)=(↑(aa m.toNat).length:Int))/\Dig (aa RGT.toNat)/\Dig (aa m.toNat)/\(aa RGT.toNat).length+(aa m.toNat).length<=(500000:Nat))/\((0:Int)<d/\d<(1000000000000000000:Int))/\((↑(aa (val (aa RGT.toNat)*val (aa m.toNat)).toNat).length:Int)=(↑(aa (val (aa RGT.toNat)*val (aa m.toNat)).toNat).length:Int)/\(↑(aa d.toNat).length:Int)=(↑(aa d.toNat).length:Int))/\(Dig (aa (val (aa RGT.toNat)*val (aa m.toNat)).toNat)/\Dig (aa d.toNat)/\Top (aa (val (aa RGT.toNat)*val (aa m.toNat)).toNat)/\Top (aa d.toNat)/\(aa (val (aa RGT.toNat)*val (aa m.toNat)).toNat).length<=(500000:Nat)/\(aa d.toNat).length=(1:Nat)/\(0:Int)<val (aa d.toNat)/\val (aa d.toNat)<=val (aa (val (aa RGT.toNat)*val (aa m.toNat)).toNat)\/OvC (aa (val (aa RGT.toNat)*val (aa m.toNat)).toNat) (aa d.toNat)))/\((↑(quY m d).length:Int)=(↑(quY m d).length:Int)/\(5:Int)=(5:Int)/\SeD (quY m d))/\(((↑(quS m d).length:Int)=(↑(quS m d).length:Int)/\Sm (quS m d)/\Sm [(100000000:Int)])/\decide (rz (quS m d) [(100000000:Int)]<=(0:Int))=false)/\(((↑(quS m d).length:Int)=(↑(quS m d).length:Int)/\Dig (quS m d)/\Dig [(100000000:Int)]/\(0:Nat)<(quS m d).length/\(quS m d).length<=(500000:Nat)/\[(100000000:Int)].length<=(quS m d).length/\val [(100000000:Int)]<=val (quS m d))/\(↑(aa (val (quS m d) - val [(100000000:Int)]).toNat).length:Int)=(↑(aa (val (quS m d) - val [(100000000:Int)]).toNat).length:Int)/\(5:Int)=(5:Int)/\DwD (aa (val (quS m d) - val [(100000000:Int)]).toNat))/\((↑(quS m d).length:Int)=(↑(quS m d).length:Int)/\Dig (quS m d)/\Dig [(100000000:Int)]/\((0:Nat)<(quS m d).length\/(0:Nat) < [(100000000:Int)].length)/\(quS m d).length<=(400000:Nat)/\[(100000000:Int)].length<=(400000:Nat))/\((↑(aa (val (quS m d)+val [(100000000:Int)]).toNat).length:Int)=(↑(aa (val (quS m d)+val [(100000000:Int)]).toNat).length:Int)/\(5:Int)=(5:Int)/\DwD (aa (val (quS m d)+val [(100000000:Int)]).toNat))/\(val (aa (val (quS m d)+val [(100000000:Int)]).toNat)*(4294967296:Int) / PP != val (aa (val (quS m d) - val [(100000000:Int)]).toNat)*(4294967296:Int) / PP)=false)
def JJ (m d:Int):AV:=(AV.agg [AV.int true IntKind.i64 (val (aa (val (quS m d) - val [(100000000:Int)]).toNat)*(4294967296:Int) / PP),AV.int true IntKind.i64 (IntKind.i64.wrap (val (aa (val (quS m d) - val [(100000000:Int)]).toNat)*(4294967296:Int) / PP+(1:Int)))])
def YS (m d:Int):Hp:=⟨[],(0:Nat),70⟩
theorem acr (m d:Int):(run (cQu [(14,false),(19,false),(25,false),(55,false),(67,false)]) 300).call 133 (Ew m d) hG0=some ⟨.p (Lf m d),[⟨.tt,JJ m d,YS m d⟩]⟩:=by kernel_rfl
def Vv (m d:Int):Prop:=((m==(0:Int))=true)
def YT (m d:Int):AV:=(AV.agg [AV.int false IntKind.i64 (Int.ofNat (0:Nat)),AV.int false IntKind.i64 (Int.ofNat (0:Nat))])
def YU (m d:Int):Hp:=⟨[],(0:Nat),9⟩
theorem acs (m d:Int):(run (cQu [(14,true)]) 300).call 133 (Ew m d) hG0=some ⟨.p (Vv m d),[⟨.tt,YT m d,YU m d⟩]⟩:=by kernel_rfl
def Vw (m d:Int):Prop:=((m==(0:Int))=false/\(m==d)=true)
def YV (m d:Int):AV:=(AV.agg [AV.int false IntKind.i64 (Int.ofNat 4294967296),AV.int false IntKind.i64 (Int.ofNat 4294967296)])
def YW (m d:Int):Hp:=⟨[],(0:Nat),13⟩
theorem acu (m d:Int):(run (cQu [(14,false),(19,true)]) 300).call 133 (Ew m d) hG0=some ⟨.p (Vw m d),[⟨.tt,YV m d,YW m d⟩]⟩:=by kernel_rfl
def Vy (m d:Int):Prop:=((m==(0:Int))=false/\(m==d)=false/\(IntKind.i64.wrap ((3:Int)*m)==d)=true)
def YX (m d:Int):AV:=(AV.agg [AV.int false IntKind.i64 (Int.ofNat 2147483648),AV.int false IntKind.i64 (Int.ofNat 2147483648)])
def YY (m d:Int):Hp:=⟨[],(0:Nat),18⟩
theorem acv (m d:Int):(run (cQu [(14,false),(19,false),(25,true)]) 300).call 133 (Ew m d) hG0=some ⟨.p (Vy m d),[⟨.tt,YX m d,YY m d⟩]⟩:=by kernel_rfl
end
end Go.Proofs.YtbhibbcjfgnmhaaGreatDoor.K
namespace Go.Dg
def RG:Int:=1570796326794896619231321691639751442098584716
def bz (m d:Int):Int:=RG*m / d
def mR (m d:Int):Int:=l6 (bz m d*bz m d / PP) 200 2 (bz m d) (bz m d)
def kX (m d:Int):Int:=(mR m d - 100000000)*4294967296 / PP
structure SinG (m d:Int):Prop where
 t:0<bz m d*(bz m d*bz m d / PP) / PP / (2*(2+1))
 hi:mR m d<=2*PP
 far:100000000<mR m d
 same:(mR m d+100000000)*4294967296 / PP=kX m d
def gQ (m d:Int):Int:=if m=0 then 0 else if m=d then 4294967296 else if 3*m=d then 2147483648 else kX m d
def gT (m d:Int):Int:=if m=0 then 0 else if m=d then 4294967296 else if 3*m=d then 2147483648 else kX m d+1
end Go.Dg
namespace Go.Proofs.YtbhibbcjfgnmhaaGreatDoor.K
open Go Go.Eng Go.Dg
noncomputable section
theorem QY:Dig [0,0,0,0,0,1]:=fun x hx=>by simp at hx; omega
theorem aaC {m d:Int} (h0:0<m) (h1:m<=d):0<=bz m d/\bz m d<=1700000000000000000000000000000000000000000000:=by
 have hr:0<RG:=by decide
 refine ⟨Int.ediv_nonneg (Int.mul_nonneg (by omega) (by omega)) (by omega),Int.le_trans (b:=RG) (Int.ediv_le_of_le_mul (by omega) (Int.mul_le_mul_of_nonneg_left h1 (by omega))) (by decide)⟩
theorem Ey {m d:Int} (h0:0<m) (h1:m<=d):quY m d=aa (bz m d).toNat/\val (quY m d)=bz m d:=by
 have e1:val (aa RGT.toNat)=RG:=dv (by decide)
 have e2:val (aa m.toNat)=m:=dv (by omega)
 have e3:val (aa d.toNat)=d:=dv (by omega)
 have e4:val (aa (RG*m).toNat)=RG*m:=dv (Int.mul_nonneg (by decide) (by omega))
 have e:quY m d=aa (bz m d).toNat:=by
  unfold quY
  rw [e1,e2,e4,e3]; rfl
 exact ⟨e,by rw [e]; exact dv (aaC h0 h1).1⟩
theorem Vz {m d:Int} (h0:0<m) (h1:m<=d) (hs:0<=mR m d):quS m d=aa (mR m d).toNat/\val (quS m d)=mR m d:=by
 obtain ⟨e1,e2⟩:=Ey h0 h1
 have e:quS m d=aa (mR m d).toNat:=by
  unfold quS
  show aa (l6 (sW (quY m d)) 200 2 (val (quY m d)) (val (quY m d))).toNat=_
  unfold sW
  rw [e2]; rfl
 exact ⟨e,by rw [e]; exact dv hs⟩
theorem aaD {m d:Int} (h0:0<m) (h1:m<=d) (g:SinG m d):SeD (quY m d):=by
 obtain ⟨e1,e2⟩:=Ey h0 h1
 obtain ⟨y0,y1⟩:=aaC h0 h1
 refine ⟨by rw [e1]; exact aC _,?_,by rw [e2]; exact y1,?_⟩
 .rw [e1]
  exact Nat.le_trans (jR y0 (Int.le_trans y1 (by decide))) (by decide)
 .have:=g.t
  unfold seT sW
  rw [e2]; exact this
theorem QZ {v:Int} (h0:0<=v) (h1:v<=3*PP):DwD (aa v.toNat):=by
 have p:=gm
 refine ⟨aC _,Nat.le_trans (jR h0 (by omega)) (by decide),?_⟩
 rw [QN,dv h0]
 refine Int.lt_of_le_of_lt (b:=12884901888) (Int.ediv_le_of_le_mul p ?_) (by decide)
 have:(12884901888:Int)*PP=3*PP*4294967296:=by decide
 rw [this]
 exact Int.mul_le_mul_of_nonneg_right h1 (by decide)
theorem Q0 {m d:Int} (g:SinG m d):0<=kX m d/\kX m d<=12884901888:=by
 have p:=gm
 have:=g.far
 have:=g.hi
 refine ⟨Int.ediv_nonneg (Int.mul_nonneg (by omega) (by decide)) (by omega),Int.ediv_le_of_le_mul p ?_⟩
 have e:(12884901888:Int)*PP=3*PP*4294967296:=by decide
 rw [e]
 exact Int.mul_le_mul_of_nonneg_right (by omega) (by decide)
end
end Go.Proofs.YtbhibbcjfgnmhaaGreatDoor.K
namespace Go.Dg
def YZ (m d:Int):Bool:=decide (0<bz m d*(bz m d*bz m d / PP) / PP / (2*(2+1)))&&decide (mR m d<=2*PP)&&decide (100000000<mR m d)&&decide ((mR m d+100000000)*4294967296 / PP=kX m d)
theorem VA {m d:Int} (h:YZ m d=true):SinG m d:=by
 simp only [YZ,Bool.and_eq_true,decide_eq_true_eq] at h
 exact ⟨h.1.1.1,h.1.1.2,h.1.2,h.2⟩
end Go.Dg
namespace Go.Ln
def ah (w:Nat) (f:Nat->Nat):Nat->Nat
 | 0=>0
 | n+1=>ah w f n+f n*2 ^ (w*n)
theorem kG (w:Nat) (f g:Nat->Nat) (n:Nat):ah w f n+ah w g n=ah w (fun i=>f i+g i) n:=by
 induction n with
 | zero=>rfl
 | succ n ih=>simp only [ah]; rw [<- ih]; grind
theorem jq (w k:Nat) (f:Nat->Nat) (n:Nat):k*ah w f n=ah w (fun i=>k*f i) n:=by
 induction n with
 | zero=>rfl
 | succ n ih=>simp only [ah]; rw [<- ih]; grind
theorem qj {w:Nat} {f:Nat->Nat} {n:Nat} (h:∀ i,i<n->f i<2 ^ w):ah w f n<2 ^ (w*n):=by
 induction n with
 | zero=>simp [ah]
 | succ n ih=>
  have h1:=ih (fun i hi=>h i (by omega))
  have h2:=h n (by omega)
  simp only [ah]
  have e:2 ^ (w*(n+1))=2 ^ w*2 ^ (w*n):=by rw [Nat.mul_succ,Nat.pow_add,Nat.mul_comm]
  rw [e]
  have h3:(f n+1)*2 ^ (w*n)<=2 ^ w*2 ^ (w*n):=Nat.mul_le_mul_right _ h2
  rw [Nat.add_mul] at h3
  omega
theorem il {w:Nat} {f g:Nat->Nat} {n:Nat} (h:∀ i,i<n->f i=g i):ah w f n=ah w g n:=by
 induction n with
 | zero=>rfl
 | succ n ih=>
  simp only [ah]
  rw [ih (fun i hi=>h i (by omega)),h n (by omega)]
theorem Ns {w:Nat} {f g:Nat->Nat} {n:Nat} (hf:∀ i,i<n->f i<2 ^ w) (hg:∀ i,i<n->g i<2 ^ w) (h:ah w f n=ah w g n):∀ i,i<n->f i=g i:=by
 induction n with
 | zero=>intro i hi; omega
 | succ n ih=>
  have a:=qj (fun i hi=>hf i (show i<n+1 by omega):∀ i,i<n->f i<2 ^ w)
  have b:=qj (fun i hi=>hg i (show i<n+1 by omega):∀ i,i<n->g i<2 ^ w)
  simp only [ah] at h
  have p:0<2 ^ (w*n):=Nat.two_pow_pos _
  have q:f n=g n:=by
   have h1:=congrArg (· / 2 ^ (w*n)) h
   simp only [Nat.add_mul_div_right _ _ p] at h1
   rw [Nat.div_eq_of_lt a,Nat.div_eq_of_lt b] at h1
   omega
  rw [q] at h
  intro i hi
  rcases Nat.lt_or_ge i n with h2|h2
  .exact ih (fun j hj=>hf j (by omega)) (fun j hj=>hg j (by omega)) (by omega) i h2
  .have:i=n:=by omega
   subst this; exact q
theorem Nt {k a b c d:Nat} (ha:a<2 ^ k) (hc:c<2 ^ k):(a+b*2 ^ k) &&& (c+d*2 ^ k)=(a &&& c)+(b &&& d)*2 ^ k:=by
 apply Nat.eq_of_testBit_eq
 intro i
 have e:∀ x y:Nat,x+y*2 ^ k=2 ^ k*y+x:=fun x y=>by rw [Nat.add_comm,Nat.mul_comm]
 rw [Nat.testBit_and,e,e,e,Nat.testBit_two_pow_mul_add _ ha,Nat.testBit_two_pow_mul_add _ hc,Nat.testBit_two_pow_mul_add _ (Nat.and_lt_two_pow _ hc)]
 split
 .rw [Nat.testBit_and]
 .rw [Nat.testBit_and]
theorem Cw {w:Nat} {f g:Nat->Nat} {n:Nat} (hf:∀ i,i<n->f i<2 ^ w) (hg:∀ i,i<n->g i<2 ^ w):ah w f n &&& ah w g n=ah w (fun i=>f i &&& g i) n:=by
 induction n with
 | zero=>simp [ah]
 | succ n ih=>
  simp only [ah]
  rw [Nt (qj fun i hi=>hf i (by omega)) (qj fun i hi=>hg i (by omega)),ih (fun i hi=>hf i (by omega)) (fun i hi=>hg i (by omega))]
def far (w n v e:Nat) (X E M K H:Nat):Bool:=Nat.beq ((((X+E) &&& M)+K) &&& H) H
theorem Q3 {t v:Nat} (h:t<2 ^ (v+1)) (hb:t &&& 2 ^ v=2 ^ v):2 ^ v<=t:=by
 rw [<- hb]; exact Nat.and_le_left
theorem Y0 {w n v e:Nat} {x:Nat->Nat} {X E M K H:Nat} (hX:X=ah w x n) (hE:E=ah w (fun _=>e) n) (hM:M=ah w (fun _=>2 ^ v - 1) n) (hK:K=ah w (fun _=>2 ^ v - 2*e) n) (hH:H=ah w (fun _=>2 ^ v) n)
  (hx:∀ i,i<n->x i+e<2 ^ w) (hv:v+1<w) (he:0<e) (h:far w n v e X E M K H=true):∀ i,i<n->2*e<=(x i+e) % 2 ^ v:=by
 have h:=Nat.eq_of_beq_eq_true h
 have hw:2 ^ (v+1)<2 ^ w:=Nat.pow_lt_pow_right (by decide) hv
 have e2:2 ^ (v+1)=2*2 ^ v:=by rw [Nat.pow_succ,Nat.mul_comm]
 have p:0<2 ^ v:=Nat.two_pow_pos v
 subst hX hE hM hK hH
 rw [kG,Cw hx (fun i _=>by omega)] at h
 have em:∀ i,(x i+e) &&& (2 ^ v - 1)=(x i+e) % 2 ^ v:=fun i=>Nat.and_two_pow_sub_one_eq_mod ..
 have hz:∀ i,(x i+e) % 2 ^ v<2 ^ v:=fun i=>Nat.mod_lt _ p
 rw [il (g:=fun i=>(x i+e) % 2 ^ v) (fun i _=>em i),kG,Cw (fun i _=>by have:=hz i; omega) (fun i _=>by omega)] at h
 have k:=Ns (fun i _=>by
  have:((x i+e) % 2 ^ v+(2 ^ v - 2*e)) &&& 2 ^ v<=2 ^ v:=Nat.and_le_right
  omega) (fun i _=>by omega) h
 intro i hi
 have h1:=Q3 (t:=(x i+e) % 2 ^ v+(2 ^ v - 2*e)) (by have:=hz i; omega) (k i hi)
 omega
theorem l7 {w:Nat} (hw:0<w) {f:Nat->Nat} {n:Nat} (hf:∀ i,i<n->f i<2 ^ w) (i:Nat):(ah w f n).testBit i=(decide (i<w*n)&&(f (i / w)).testBit (i % w)):=by
 induction n with
 | zero=>simp [ah]
 | succ n ih=>
  have h1:=qj (fun j hj=>hf j (by omega):∀ j,j<n->f j<2 ^ w)
  simp only [ah]
  rw [Nat.add_comm,Nat.mul_comm,Nat.testBit_two_pow_mul_add _ h1,ih (fun j hj=>hf j (by omega))]
  by_cases h:i<w*n
  .have h2:i<w*(n+1):=by rw [Nat.mul_succ]; omega
   simp [h,h2]
  .rw [if_neg h]
   by_cases h2:i<w*(n+1)
   .have e1:i / w=n:=by
     apply Nat.div_eq_of_lt_le
     .rw [Nat.mul_comm]; omega
     .rw [Nat.mul_comm]; exact h2
    have e2:i % w=i - w*n:=by
     have:=Nat.div_add_mod i w
     rw [e1] at this
     omega
    rw [e1,e2]
    simp [h2]
   .have h3:w<=i - w*n:=by rw [Nat.mul_succ] at h2; omega
    have h4:(f n).testBit (i - w*n)=false:=Nat.testBit_lt_two_pow (Nat.lt_of_lt_of_le (hf n (by omega)) (Nat.pow_le_pow_right (by decide) h3))
    rw [h4]
    simp [h2]
theorem Cx {w p:Nat} (hp:p<=w) (hw:0<w) {f:Nat->Nat} {n:Nat} (hf:∀ i,i<n->f i<2 ^ w):(ah w f n >>> p) &&& ah w (fun _=>2 ^ (w - p) - 1) n=ah w (fun i=>f i / 2 ^ p) n:=by
 have hd:∀ i,i<n->f i / 2 ^ p<2 ^ (w - p):=fun i hi=>by
  apply Nat.div_lt_of_lt_mul
  rw [<- Nat.pow_add,show p+(w - p)=w by omega]
  exact hf i hi
 have hle:2 ^ (w - p)<=2 ^ w:=Nat.pow_le_pow_right (by decide) (by omega)
 have pos:0<2 ^ (w - p):=Nat.two_pow_pos _
 apply Nat.eq_of_testBit_eq
 intro i
 rw [Nat.testBit_and,Nat.testBit_shiftRight,l7 hw hf,l7 hw (fun _ _=>by omega),l7 hw (fun j hj=>Nat.lt_of_lt_of_le (hd j hj) hle)]
 have hm:=Nat.mod_lt i hw
 have hdm:=Nat.div_add_mod i w
 by_cases h:i<w*n
 .have hq:i / w<n:=Nat.div_lt_of_lt_mul h
  rw [Nat.testBit_two_pow_sub_one]
  by_cases h2:i % w<w - p
  .have e1:(p+i) / w=i / w:=by
    apply Nat.div_eq_of_lt_le
    .rw [Nat.mul_comm]; omega
    .rw [Nat.add_mul,Nat.mul_comm (i / w) w]; omega
   have e2:(p+i) % w=p+i % w:=by
    have:=Nat.div_add_mod (p+i) w
    rw [e1] at this
    omega
   have e3:p+i<w*n:=by
    have h3:w*(i / w+1)<=w*n:=Nat.mul_le_mul_left w hq
    rw [Nat.mul_add] at h3
    omega
   rw [e1,e2,Nat.testBit_div_two_pow,Nat.add_comm (i % w) p]
   simp [h,h2,e3]
  .have h4:(f (i / w) / 2 ^ p).testBit (i % w)=false:=Nat.testBit_lt_two_pow (Nat.lt_of_lt_of_le (hd _ hq) (Nat.pow_le_pow_right (by decide) (by omega)))
   rw [h4]
   simp [h,h2]
 .simp [h]
theorem Cy (w:Nat) (f:Nat->Nat) (m n:Nat):ah w f (m+n)=ah w f m+ah w (fun i=>f (m+i)) n*2 ^ (w*m):=by
 induction n with
 | zero=>simp [ah]
 | succ n ih=>
  rw [<- Nat.add_assoc]
  simp only [ah]
  rw [ih,Nat.mul_add,Nat.pow_add]
  grind
theorem Nv {w:Nat} {f g:Nat->Nat} {n:Nat} (h:∀ i,i<n->g i<=f i):ah w f n - ah w g n=ah w (fun i=>f i - g i) n:=by
 have e:ah w (fun i=>f i - g i) n+ah w g n=ah w f n:=by
  rw [kG]
  exact il fun i hi=>by have:=h i hi; omega
 omega
def vJ (w:Nat):Nat->Nat
 | 0=>1
 | k+1=>vJ w k+vJ w k*2 ^ (w*2 ^ k)
theorem yC (w:Nat):∀ k,vJ w k=ah w (fun _=>1) (2 ^ k)
 | 0=>by simp [vJ,ah]
 | k+1=>by rw [vJ,yC w k,Nat.pow_succ,Nat.mul_comm (2 ^ k) 2,Nat.two_mul,Cy]
theorem qm (w c:Nat) (n:Nat):ah w (fun _=>c) n=c*ah w (fun _=>1) n:=by
 rw [jq]; simp
theorem Cz (w c j:Nat):∀ n,ah w (fun i=>if i=j then c else 0) n=if j<n then c*2 ^ (w*j) else 0
 | 0=>by simp [ah]
 | n+1=>by
  simp only [ah]
  rw [Cz w c j n]
  by_cases h:j<n
  .simp [h,show j<n+1 by omega,show n≠j by omega]
  .by_cases h2:n=j
   .subst h2; simp
   .simp [h,h2,show ¬ j<n+1 by omega]
end Go.Ln
namespace Go.Sn
def sum (f:Nat->Rat):Nat->Rat
 | 0=>0
 | n+1=>sum f n+f n
theorem lQ (f g:Nat->Rat) (n:Nat):sum (fun i=>f i+g i) n=sum f n+sum g n:=by
 induction n with
 | zero=>simp only [sum]; grind
 | succ n ih=>simp only [sum]; rw [ih]; grind
theorem Ez (f g:Nat->Rat) (n:Nat):sum (fun i=>f i - g i) n=sum f n - sum g n:=by
 induction n with
 | zero=>simp only [sum]; grind
 | succ n ih=>simp only [sum]; rw [ih]; grind
theorem cO (k:Rat) (f:Nat->Rat) (n:Nat):sum (fun i=>k*f i) n=k*sum f n:=by
 induction n with
 | zero=>simp [sum]
 | succ n ih=>simp only [sum]; rw [ih]; grind
theorem dz {f g:Nat->Rat} {n:Nat} (h:∀ i,i<n->f i=g i):sum f n=sum g n:=by
 induction n with
 | zero=>rfl
 | succ n ih=>simp only [sum]; rw [ih (fun i hi=>h i (by omega)),h n (by omega)]
theorem Nw (f:Nat->Rat) (n:Nat):sum f (n+1)=f 0+sum (fun i=>f (i+1)) n:=by
 induction n with
 | zero=>simp only [sum]; grind
 | succ n ih=>rw [sum,ih]; simp only [sum]; grind
theorem wX {f g:Nat->Rat} {n:Nat} (h:∀ i,i<n->f i<=g i):sum f n<=sum g n:=by
 induction n with
 | zero=>simp [sum]
 | succ n ih=>
  have h1:=ih (fun i hi=>h i (by omega))
  have h2:=h n (by omega)
  simp only [sum]; grind
theorem JK {f:Nat->Rat} {n:Nat} (h:∀ i,i<n->0<=f i):0<=sum f n:=by
 induction n with
 | zero=>simp [sum]
 | succ n ih=>
  have h1:=ih (fun i hi=>h i (by omega))
  have h2:=h n (by omega)
  simp only [sum]; grind
theorem qw {f:Nat->Rat} {m n:Nat} (hmn:m<=n) (h:∀ i,i<n->0<=f i):sum f m<=sum f n:=by
 induction n with
 | zero=>
  have:m=0:=by omega
  subst this; simp [sum]
 | succ n ih=>
  rcases Nat.lt_or_ge n m with h1|h1
  .have:m=n+1:=by omega
   subst this; grind
  .have h2:=ih h1 (fun i hi=>h i (by omega))
   have h3:=h n (by omega)
   simp only [sum]; grind
theorem AC {f g:Nat->Rat} {m n:Nat} (hmn:m<=n) (h:∀ i,i<n->-g i<=f i/\f i<=g i):-(sum g n - sum g m)<=sum f n - sum f m/\sum f n - sum f m<=sum g n - sum g m:=by
 induction n with
 | zero=>
  have:m=0:=by omega
  subst this; grind
 | succ n ih=>
  rcases Nat.lt_or_ge n m with h1|h1
  .have:m=n+1:=by omega
   subst this; grind
  .obtain ⟨h2,h3⟩:=ih h1 (fun i hi=>h i (by omega))
   obtain ⟨h4,h5⟩:=h n (by omega)
   simp only [sum]; grind
def e (x:Rat):Nat->Rat
 | 0=>1
 | n+1=>e x n*x / ((n+1:Nat):Rat)
theorem mU (n:Nat):(0:Rat)<((n+1:Nat):Rat):=by exact_mod_cast Nat.succ_pos n
theorem gU (x:Rat) (n:Nat):((n+1:Nat):Rat)*e x (n+1)=x*e x n:=by
 have h:=mU n
 simp only [e]
 grind
theorem qx {x:Rat} (hx:0<=x) (n:Nat):0<=e x n:=by
 induction n with
 | zero=>simp only [e]; grind
 | succ n ih=>
  have h:=mU n
  have h1:=Rat.mul_nonneg hx ih
  rw [<- gU] at h1
  by_cases h2:0<=e x (n+1)
  .exact h2
  .have h3:=Rat.mul_pos h (show (0:Rat) < -e x (n+1) by grind)
   grind
def B (a b:Rat) (n:Nat):Rat:=sum (fun k=>e a k*e b (n - k)) (n+1)
theorem Y3 (a b:Rat) (n:Nat):((n+1:Nat):Rat)*B a b (n+1)=(a+b)*B a b n:=by
 have e1:((n+1:Nat):Rat)*B a b (n+1)=sum (fun k=>(k:Rat)*e a k*e b (n+1 - k)) (n+2)+sum (fun k=>e a k*(((n+1 - k:Nat):Rat)*e b (n+1 - k))) (n+2):=by
  unfold B
  rw [<- cO,<- lQ]
  apply dz
  intro k hk
  have:((n+1:Nat):Rat)=(k:Rat)+((n+1 - k:Nat):Rat):=by
   rw [show (n+1:Nat)=k+(n+1 - k) by omega]
   push_cast
   simp
  rw [this]
  grind
 have e2:sum (fun k=>(k:Rat)*e a k*e b (n+1 - k)) (n+2)=a*B a b n:=by
  rw [Nw]
  unfold B
  rw [<- cO]
  have z:((0:Nat):Rat)*e a 0*e b (n+1 - 0)=0:=by simp
  rw [z,Rat.zero_add]
  apply dz
  intro k hk
  show ((k+1:Nat):Rat)*e a (k+1)*e b (n+1 - (k+1))=_
  rw [gU,show n+1 - (k+1)=n - k by omega]
  grind
 have e3:sum (fun k=>e a k*(((n+1 - k:Nat):Rat)*e b (n+1 - k))) (n+2)=b*B a b n:=by
  rw [sum]
  unfold B
  rw [<- cO]
  have z:e a (n+1)*(((n+1 - (n+1):Nat):Rat)*e b (n+1 - (n+1)))=0:=by simp
  rw [z,Rat.add_zero]
  apply dz
  intro k hk
  rw [show n+1 - k=(n - k)+1 by omega,gU]
  grind
 rw [e1,e2,e3]
 grind
theorem aaE (a b:Rat) (n:Nat):B a b n=e (a+b) n:=by
 induction n with
 | zero=>simp only [B,sum,Nat.sub_self,e]; grind
 | succ n ih=>
  have h:=Y3 a b n
  have h2:=gU (a+b) n
  have p:=mU n
  rw [ih] at h
  rw [<- h2] at h
  generalize ((n+1:Nat):Rat)=k at *
  have h3:k⁻¹*(k*B a b (n+1))=k⁻¹*(k*e (a+b) (n+1)):=by rw [h]
  have h4:k⁻¹*k=1:=Rat.inv_mul_cancel k (by grind)
  rw [<- Rat.mul_assoc,<- Rat.mul_assoc,h4,Rat.one_mul,Rat.one_mul] at h3
  exact h3
def Z (c:Nat->Rat) (N:Nat) (x:Rat):Rat:=sum (fun n=>c n*e x n) N
def one (_:Nat):Rat:=1
def T (c:Nat->Rat) (a b:Rat) (N:Nat):Rat:=sum (fun p=>e a p*sum (fun q=>c (p+q)*e b q) (N - p)) N
theorem Q4 (c:Nat->Rat) (a b:Rat) (N:Nat):T c a b N=Z c N (a+b):=by
 induction N with
 | zero=>rfl
 | succ N ih=>
  have h:T c a b (N+1)=T c a b N+c N*B a b N:=by
   have h1:sum (fun p=>e a p*sum (fun q=>c (p+q)*e b q) (N+1 - p)) N=sum (fun p=>e a p*sum (fun q=>c (p+q)*e b q) (N - p)) N+c N*sum (fun p=>e a p*e b (N - p)) N:=by
    rw [<- cO,<- lQ]
    apply dz
    intro p hp
    rw [show N+1 - p=(N - p)+1 by omega,sum,show p+(N - p)=N by omega]
    grind
   unfold T B
   rw [sum,h1,show N+1 - N=0+1 by omega,sum]
   simp only [sum,Nat.sub_self,Nat.add_zero]
   grind
  rw [h,ih,aaE]
  rfl
def Rc (c:Nat->Rat) (a b:Rat) (N:Nat):Rat:=sum (fun p=>e a p*sum (fun q=>c (p+q)*e b q) N) N
def tail (N:Nat) (x:Rat):Rat:=Z one (2*N) x - Z one N x
theorem Q5 {a b:Rat} (ha:0<=a) (hb:0<=b) (N:Nat):Rc one a b N<=Z one (2*N) (a+b):=by
 rw [<- Q4]
 unfold T Rc
 have nn:∀ M,0<=sum (fun q=>one q*e b q) M:=fun M=>JK fun i _=>by
  have:=qx hb i
  simp only [one]; grind
 have h1:sum (fun p=>e a p*sum (fun q=>one (p+q)*e b q) (2*N - p)) N<=sum (fun p=>e a p*sum (fun q=>one (p+q)*e b q) (2*N - p)) (2*N):=
  qw (by omega) fun p _=>Rat.mul_nonneg (qx ha p) (nn _)
 have h2:sum (fun p=>e a p*sum (fun q=>one (p+q)*e b q) N) N<=sum (fun p=>e a p*sum (fun q=>one (p+q)*e b q) (2*N - p)) N:=by
  apply wX
  intro p hp
  apply Rat.mul_le_mul_of_nonneg_left _ (qx ha p)
  exact qw (by omega) fun q _=>by
   have:=qx hb q
   simp only [one]; grind
 grind
theorem Lg {c:Nat->Rat} (hc:∀ n,-1<=c n/\c n<=1) {a b:Rat} (ha:0<=a) (hb:0<=b) (N:Nat):-tail N (a+b)<=Rc c a b N - Z c N (a+b)/\Rc c a b N - Z c N (a+b)<=tail N (a+b):=by
 have hT:-(Rc one a b N - T one a b N)<=Rc c a b N - T c a b N/\Rc c a b N - T c a b N<=Rc one a b N - T one a b N:=by
  have key:∀ p,p<N->-(e a p*sum (fun q=>one (p+q)*e b q) N - e a p*sum (fun q=>one (p+q)*e b q) (N - p))<=e a p*sum (fun q=>c (p+q)*e b q) N - e a p*sum (fun q=>c (p+q)*e b q) (N - p) /\
    e a p*sum (fun q=>c (p+q)*e b q) N - e a p*sum (fun q=>c (p+q)*e b q) (N - p)<=e a p*sum (fun q=>one (p+q)*e b q) N - e a p*sum (fun q=>one (p+q)*e b q) (N - p):=by
   intro p hp
   have hb2:∀ i,i<N->-(one (p+i)*e b i)<=c (p+i)*e b i/\c (p+i)*e b i<=one (p+i)*e b i:=by
    intro i _
    have h1:=qx hb i
    have h2:=hc (p+i)
    have h3:=Rat.mul_nonneg (a:=c (p+i)+1) (by grind) h1
    have h4:=Rat.mul_nonneg (a:=1 - c (p+i)) (by grind) h1
    simp only [one]; grind
   obtain ⟨h1,h2⟩:=AC (f:=fun q=>c (p+q)*e b q) (g:=fun q=>one (p+q)*e b q) (Nat.sub_le N p) hb2
   have h3:=qx ha p
   have h4:=Rat.mul_le_mul_of_nonneg_left h1 h3
   have h5:=Rat.mul_le_mul_of_nonneg_left h2 h3
   grind
  have f1:∀ d:Nat->Rat,Rc d a b N - T d a b N=sum (fun p=>e a p*sum (fun q=>d (p+q)*e b q) N - e a p*sum (fun q=>d (p+q)*e b q) (N - p)) N:=by
   intro d
   unfold Rc T
   rw [<- Ez]
  rw [f1,f1]
  constructor
  .have:=wX (f:=fun p=>-1*(e a p*sum (fun q=>one (p+q)*e b q) N - e a p*sum (fun q=>one (p+q)*e b q) (N - p))) (g:=fun p=>e a p*sum (fun q=>c (p+q)*e b q) N - e a p*sum (fun q=>c (p+q)*e b q) (N - p)) (n:=N) (fun p hp=>by have:=(key p hp).1; grind)
   rw [cO] at this
   grind
  .exact wX fun p hp=>(key p hp).2
 rw [Q4,Q4] at hT
 have:=Q5 ha hb N
 unfold tail
 grind
def sF (n:Nat):Rat:=match n % 4 with|1=>1|3=>-1|_=>0
def cF (n:Nat):Rat:=match n % 4 with|0=>1|2=>-1|_=>0
theorem sZ (n:Nat):n % 4=0\/n % 4=1\/n % 4=2\/n % 4=3:=by omega
theorem Q6 (n:Nat):-1<=sF n/\sF n<=1:=by
 unfold sF
 rcases sZ n with h|h|h|h <;> rw [h] <;> decide
theorem Q7 (n:Nat):-1<=cF n/\cF n<=1:=by
 unfold cF
 rcases sZ n with h|h|h|h <;> rw [h] <;> decide
theorem Y4 (p q:Nat):sF (p+q)=sF p*cF q+cF p*sF q:=by
 have h:(p+q) % 4=(p % 4+q % 4) % 4:=by omega
 unfold sF cF
 rw [h]
 rcases sZ p with h1|h1|h1|h1 <;> rcases sZ q with h2|h2|h2|h2 <;> rw [h1,h2] <;> simp <;> grind
theorem Q8 (p q:Nat):cF (p+q)=cF p*cF q - sF p*sF q:=by
 have h:(p+q) % 4=(p % 4+q % 4) % 4:=by omega
 unfold sF cF
 rw [h]
 rcases sZ p with h1|h1|h1|h1 <;> rcases sZ q with h2|h2|h2|h2 <;> rw [h1,h2] <;> simp <;> grind
def S (N:Nat) (x:Rat):Rat:=Z sF N x
def C (N:Nat) (x:Rat):Rat:=Z cF N x
theorem acw (a b:Rat) (N:Nat):Rc sF a b N=S N a*C N b+C N a*S N b:=by
 have h:∀ p,e a p*sum (fun q=>sF (p+q)*e b q) N=C N b*(sF p*e a p)+S N b*(cF p*e a p):=by
  intro p
  have h1:sum (fun q=>sF (p+q)*e b q) N=sF p*C N b+cF p*S N b:=by
   unfold C S Z
   rw [<- cO,<- cO,<- lQ]
   apply dz
   intro q _
   rw [Y4]; grind
  rw [h1]; grind
 unfold Rc
 rw [dz (fun p _=>h p),lQ,cO,cO]
 unfold S C Z
 grind
theorem acx (a b:Rat) (N:Nat):Rc cF a b N=C N a*C N b - S N a*S N b:=by
 have h:∀ p,e a p*sum (fun q=>cF (p+q)*e b q) N=C N b*(cF p*e a p) + -S N b*(sF p*e a p):=by
  intro p
  have h1:sum (fun q=>cF (p+q)*e b q) N=cF p*C N b + -sF p*S N b:=by
   unfold C S Z
   rw [<- cO,<- cO,<- lQ]
   apply dz
   intro q _
   rw [Q8]; grind
  rw [h1]; grind
 unfold Rc
 rw [dz (fun p _=>h p),lQ,cO,cO]
 unfold S C Z
 grind
theorem EA {a b:Rat} (ha:0<=a) (hb:0<=b) (N:Nat):-tail N (a+b)<=S N a*C N b+C N a*S N b - S N (a+b)/\S N a*C N b+C N a*S N b - S N (a+b)<=tail N (a+b):=by
 have:=Lg Q6 ha hb N
 rw [acw] at this
 exact this
theorem Lh {a b:Rat} (ha:0<=a) (hb:0<=b) (N:Nat):-tail N (a+b)<=C N a*C N b - S N a*S N b - C N (a+b)/\C N a*C N b - S N a*S N b - C N (a+b)<=tail N (a+b):=by
 have:=Lg Q7 ha hb N
 rw [acx] at this
 exact this
theorem VB {x y:Rat} (hx:0<=x) (h:x<=y) (n:Nat):e x n<=e y n:=by
 induction n with
 | zero=>simp only [e]; grind
 | succ n ih=>
  have p:=mU n
  have h1:=gU x n
  have h2:=gU y n
  have h3:x*e x n<=y*e y n:=by
   have a:=Rat.mul_le_mul_of_nonneg_left ih hx
   have b:=Rat.mul_le_mul_of_nonneg_right h (qx (show 0<=y by grind) n)
   grind
  rw [<- h1,<- h2] at h3
  exact Rat.le_of_mul_le_mul_left h3 p
theorem aaF {x y:Rat} (hx:0<=x) (h:x<=y) (n:Nat):e y (n+1) - e x (n+1)<=(y - x)*e y n:=by
 have hy:0<=y:=by grind
 induction n with
 | zero=>
  have h1:=gU x 0
  have h2:=gU y 0
  simp only [e] at *
  grind
 | succ n ih=>
  have p:=mU (n+1)
  have h1:=gU x (n+1)
  have h2:=gU y (n+1)
  have h3:=gU y n
  have e0:=qx hy n
  have m0:0<=(y - x)*e y n:=Rat.mul_nonneg (by grind) e0
  have a:=Rat.mul_le_mul_of_nonneg_left ih hx
  have b:=Rat.mul_le_mul_of_nonneg_right h m0
  have c:((n+1+1:Nat):Rat)=((n+1:Nat):Rat)+1:=by push_cast; rfl
  refine Rat.le_of_mul_le_mul_left (c:=((n+1+1:Nat):Rat)) ?_ p
  have g1:((n+1+1:Nat):Rat)*(e y (n+1+1) - e x (n+1+1))=y*e y (n+1) - x*e x (n+1):=by rw [<- h1,<- h2]; grind
  have g2:((n+1+1:Nat):Rat)*((y - x)*e y (n+1))=(y - x)*(y*e y n)+(y - x)*e y (n+1):=by rw [c,<- h3]; grind
  rw [g1,g2]
  grind
theorem Q9 {c:Nat->Rat} (hc:∀ n,-1<=c n/\c n<=1) {x y:Rat} (hx:0<=x) (h:x<=y) (N:Nat):-((y - x)*Z one N y)<=Z c (N+1) y - Z c (N+1) x/\Z c (N+1) y - Z c (N+1) x<=(y - x)*Z one N y:=by
 have key:∀ n,-((y - x)*e y n)<=c (n+1)*e y (n+1) - c (n+1)*e x (n+1)/\c (n+1)*e y (n+1) - c (n+1)*e x (n+1)<=(y - x)*e y n:=by
  intro n
  have h1:=aaF hx h n
  have h2:=VB hx h (n+1)
  obtain ⟨h3,h4⟩:=hc (n+1)
  have h5:=Rat.mul_nonneg (a:=c (n+1)+1) (b:=e y (n+1) - e x (n+1)) (by grind) (by grind)
  have h6:=Rat.mul_nonneg (a:=1 - c (n+1)) (b:=e y (n+1) - e x (n+1)) (by grind) (by grind)
  grind
 induction N with
 | zero=>simp only [Z,sum,e]; grind
 | succ N ih=>
  have h1:=key N
  unfold Z at *
  simp only [sum,one] at *
  grind
theorem qY {x y:Rat} (hx:0<=x) (h:x<=y) (N:Nat):0<=tail N x/\tail N x<=tail N y:=by
 unfold tail Z
 have h0:=qw (f:=fun n=>one n*e x n) (show N<=2*N by omega) (fun i _=>by have:=qx hx i; simp only [one]; grind)
 have:=AC (f:=fun n=>one n*e x n) (g:=fun n=>one n*e y n) (show N<=2*N by omega) (fun i _=>by
  have h1:=qx hx i
  have h2:=VB hx h i
  simp only [one]; grind)
 grind
theorem CB {x y:Rat} (hx:0<=x) (h:x<=y) (N:Nat):Z one N x<=Z one N y:=by
 unfold Z
 exact wX fun i _=>by
  have:=VB hx h i
  simp only [one]; grind
theorem Z5:Z one 64 (8 / 5)<=5:=by decide +kernel
theorem aaG:tail 64 (8 / 5)*(2:Rat) ^ 230<=1:=by decide +kernel
end Go.Sn
namespace Go.Sn
open Go.Dg
def hp:Rat:=15707963267948966192313216916397514420985846996875529104874722961539082 / 10000000000000000000000000000000000000000000000000000000000000000000000
def tru (q:Rat):Rat:=S 64 (hp*q)
def dl:Rat:=1 / 34359738368
def Ra (q:Rat) (k:Int):Prop:=(k:Rat)+dl<=4294967296*tru q/\4294967296*tru q<=(k:Rat)+1 - dl
def pT (sq y:Int):Nat->Int
 | 0=>y
 | j+1=>pT sq y j*sq / PP / ((2*(j:Int)+2)*(2*(j:Int)+2+1))
def pS (sq y:Int):Nat->Int
 | 0=>0
 | j+1=>match decide (j % 2=0) with|true=>pS sq y j+pT sq y j|false=>pS sq y j - pT sq y j
theorem VC {sq y:Int} {j:Nat} (h:pT sq y j=0):∀ n,j<=n->pT sq y n=0:=by
 intro n hn
 induction n with
 | zero=>
  have:j=0:=by omega
  subst this; exact h
 | succ n ih=>
  rcases Nat.lt_or_ge n j with h1|h1
  .have:j=n+1:=by omega
   subst this; exact h
  .rw [pT,ih h1]; simp
theorem Li {sq y:Int} {j:Nat} (h:pT sq y j=0):∀ n,j<=n->pS sq y n=pS sq y j:=by
 intro n hn
 induction n with
 | zero=>
  have:j=0:=by omega
  subst this; rfl
 | succ n ih=>
  rcases Nat.lt_or_ge n j with h1|h1
  .have:j=n+1:=by omega
   subst this; rfl
  .rw [pS,VC h n h1,ih h1]
   split <;> omega
theorem Lj {sq y:Int}:∀ (n j:Nat),l6 sq n (2*(j:Int)+2) (pT sq y j) (pS sq y (j+1))=pS sq y (j+1+n)
 | 0,_=>rfl
 | n+1,j=>by
  by_cases h:pT sq y (j+1)=0
  .rw [Hz (by exact h),Li h (j+1+(n+1)) (by omega)]
  .rw [wV (by exact h)]
   have ih:=Lj (sq:=sq) (y:=y) n (j+1)
   rw [show j+1+(n+1)=j+1+1+n by omega,<- ih]
   have e1:2*(j:Int)+2+2=2*((j+1:Nat):Int)+2:=by push_cast; omega
   rw [e1]
   show l6 sq n _ (pT sq y (j+1)) _=_
   congr 1
   rw [pS]
   show _=(match decide ((j+1) % 2=0) with|true=>pS sq y (j+1)+pT sq y (j+1)|false=>pS sq y (j+1) - pT sq y (j+1))
   by_cases hj:(j+1) % 2=0
   .rw [decide_eq_true hj,decide_eq_false (show ¬(2*(j:Int)+2) % 4=2 by omega)]; rfl
   .rw [decide_eq_false hj,decide_eq_true (show (2*(j:Int)+2) % 4=2 by omega)]; rfl
theorem qy {sq y:Int} (hs0:0<=sq) (hs:sq<=3*PP) (hy:0<=y):∀ j,0<=pT sq y j/\2*pT sq y (j+1)<=pT sq y j:=by
 intro j
 have key:∀ j,0<=pT sq y j->0<=pT sq y (j+1)/\2*pT sq y (j+1)<=pT sq y j:=by
  intro j h
  have:=QC (i:=2*(j:Int)+2) hs0 hs h (by omega)
  exact this
 have nn:∀ j,0<=pT sq y j:=by
  intro j
  induction j with
  | zero=>exact hy
  | succ j ih=>exact (key j ih).1
 exact ⟨nn j,(key j (nn j)).2⟩
theorem aaH {sq y:Int} (hs0:0<=sq) (hs:sq<=3*PP) (hy:0<=y):∀ j:Nat,y - pT sq y 1<=pS sq y (2*j+2)/\pS sq y (2*j+2)+pT sq y (2*j+2)<=y:=by
 intro j
 induction j with
 | zero=>
  have h1:0<=pT sq y 1/\2*pT sq y 2<=pT sq y 1:=qy hs0 hs hy 1
  have e:pS sq y 2=0+y - pT sq y 1:=rfl
  show y - pT sq y 1<=pS sq y 2/\pS sq y 2+pT sq y 2<=y
  have h2:=qy hs0 hs hy 2
  omega
 | succ j ih=>
  have h1:=qy hs0 hs hy (2*j+2)
  have h2:=qy hs0 hs hy (2*j+3)
  have h3:=qy hs0 hs hy (2*j+4)
  have e1:pS sq y (2*j+2+1)=pS sq y (2*j+2)+pT sq y (2*j+2):=by rw [pS,decide_eq_true (by omega)]
  have e2:pS sq y (2*j+2+1+1)=pS sq y (2*j+2+1) - pT sq y (2*j+2+1):=by rw [pS,decide_eq_false (by omega)]
  show y - pT sq y 1<=pS sq y (2*j+2+1+1)/\pS sq y (2*j+2+1+1)+pT sq y (2*j+4)<=y
  have e3:pT sq y (2*j+2+1)=pT sq y (2*j+3):=rfl
  have e4:pT sq y (2*j+3+1)=pT sq y (2*j+4):=rfl
  have e5:pT sq y (2*j+2+1)=pT sq y (2*j+3):=rfl
  omega
def U:Rat:=1000000000000000000000000000000000000000000000
theorem Ny:((PP:Int):Rat)=U:=by decide
theorem EB (a b:Int) (hb:0<b):((a / b:Int):Rat)*(b:Rat)<=(a:Rat):=by
 have:=Int.ediv_mul_le a (b:=b) (by omega)
 exact_mod_cast this
theorem EC (a b:Int) (hb:0<b):(a:Rat)<(((a / b:Int):Rat)+1)*(b:Rat):=by
 have:=Int.lt_ediv_add_one_mul_self a hb
 exact_mod_cast this
theorem step {U x p q t t' k a r:Rat} (hU:0<U) (x0:0<=x) (x1:x<=8 / 5) (nj:0<=p) (pyr:p<=x*U) (s0:0<=q) (i1:p<=U*t) (i2:U*t<=p+5) (sa:q*U<=x*x*U*U) (sb:x*x*U*U<(q+1)*U)
  (ta:a*U<=p*q) (tb:p*q<(a+1)*U) (ua:r*k<=a) (ub:a<(r+1)*k) (hk:6<=k) (e3:k*t'=x*x*t) (e4:0<=t):r<=U*t'/\U*t'<=r+5:=by
 have q1:q<=x*x*U:=Rat.le_of_mul_le_mul_right (c:=U) (by grind) hU
 have q2:x*x*U<q+1:=by
  apply Rat.not_le.1
  intro h
  have:=Rat.mul_le_mul_of_nonneg_right h (show 0<=U by grind)
  grind
 have x2:x*x<=64 / 25:=by
  have a:=Rat.mul_le_mul_of_nonneg_left x1 x0
  grind
 have xx0:0<=x*x:=Rat.mul_nonneg x0 x0
 have a1:a<=x*x*(U*t):=by
  refine Rat.le_of_mul_le_mul_right (c:=U) ?_ hU
  have h1:=Rat.mul_le_mul_of_nonneg_left q1 nj
  have h2:=Rat.mul_le_mul_of_nonneg_right i1 (show 0<=x*x*U from Rat.mul_nonneg xx0 (by grind))
  grind
 have a2:x*x*(U*t)<a+1+8 / 5+64 / 5:=by
  have h1:=Rat.mul_le_mul_of_nonneg_left i2 xx0
  have h2:x*x*p*U<=p*q+p:=by
   have:=Rat.mul_le_mul_of_nonneg_left (show x*x*U<=q+1 by grind) nj
   grind
  have h3:x*x*p*U<(a+1+8 / 5)*U:=by
   have:=Rat.mul_le_mul_of_nonneg_right x1 (show 0<=U by grind)
   grind
  have h4:x*x*p<a+1+8 / 5:=by
   apply Rat.not_le.1
   intro h
   have:=Rat.mul_le_mul_of_nonneg_right h (show 0<=U by grind)
   grind
  grind
 have hk0:0<k:=by grind
 constructor
 .refine Rat.le_of_mul_le_mul_right (c:=k) ?_ hk0
  have:U*t'*k=x*x*(U*t):=by grind
  grind
 .refine Rat.le_of_mul_le_mul_right (c:=k) ?_ hk0
  have:U*t'*k=x*x*(U*t):=by grind
  grind
theorem Ll {y:Int} (h0:0<=y) (h1:y*10<=16*PP):∀ j:Nat,(pT (y*y / PP) y j:Rat)<=U*e ((y:Rat) / U) (2*j+1)/\U*e ((y:Rat) / U) (2*j+1)<=(pT (y*y / PP) y j:Rat)+5:=by
 have hU:(0:Rat)<U:=by decide
 have hP:0<PP:=gm
 have y0:(0:Rat)<=(y:Rat):=by exact_mod_cast h0
 have y1:(y:Rat)*10<=16*U:=by rw [<- Ny]; exact_mod_cast h1
 have hx:(y:Rat) / U*U=(y:Rat):=by grind
 have x0:0<=(y:Rat) / U:=by
  refine Rat.le_of_mul_le_mul_right (c:=U) ?_ hU
  rw [hx]; grind
 have x1:(y:Rat) / U<=8 / 5:=by
  refine Rat.le_of_mul_le_mul_right (c:=U) ?_ hU
  rw [hx]; grind
 have s0:0<=y*y / PP:=Int.ediv_nonneg (Int.mul_nonneg h0 h0) (by omega)
 have s1:y*y / PP<=3*PP:=by
  refine Int.ediv_le_of_le_mul hP ?_
  have a:y*10*(y*10)<=16*PP*(16*PP):=Int.mul_le_mul h1 h1 (by omega) (by omega)
  have b:0<=PP*PP:=Int.mul_nonneg (by omega) (by omega)
  grind
 have sa:=EB (y*y) PP hP
 have sb:=EC (y*y) PP hP
 rw [Ny] at sa sb
 have ey:((y*y:Int):Rat)=(y:Rat) / U*((y:Rat) / U)*U*U:=by
  push_cast
  rw [<- hx]; grind
 rw [ey] at sa sb
 generalize (y:Rat) / U=x at *
 intro j
 induction j with
 | zero=>
  have e1:e x (2*0+1)=x:=by simp only [e]; grind
  rw [e1]
  show (y:Rat)<=U*x/\U*x<=(y:Rat)+5
  grind
 | succ j ih=>
  obtain ⟨i1,i2⟩:=ih
  have nn:=(qy s0 s1 h0 j).1
  have py:pT (y*y / PP) y j<=y:=by
   clear i1 i2 nn
   induction j with
   | zero=>exact Int.le_refl _
   | succ j ih=>
    have a:=qy s0 s1 h0 j
    have b:=qy s0 s1 h0 (j+1)
    omega
  have nj:(0:Rat)<=(pT (y*y / PP) y j:Rat):=by exact_mod_cast nn
  have pyr:(pT (y*y / PP) y j:Rat)<=x*U:=by rw [hx]; exact_mod_cast py
  have s0r:(0:Rat)<=((y*y / PP:Int):Rat):=by exact_mod_cast s0
  have hk:6<=(2*(j:Int)+2)*(2*(j:Int)+2+1):=Int.mul_le_mul (a:=2) (b:=3) (by omega) (by omega) (by decide) (by omega)
  have ta:=EB (pT (y*y / PP) y j*(y*y / PP)) PP hP
  have tb:=EC (pT (y*y / PP) y j*(y*y / PP)) PP hP
  have ua:=EB (pT (y*y / PP) y j*(y*y / PP) / PP) ((2*(j:Int)+2)*(2*(j:Int)+2+1)) (by omega)
  have ub:=EC (pT (y*y / PP) y j*(y*y / PP) / PP) ((2*(j:Int)+2)*(2*(j:Int)+2+1)) (by omega)
  have hkr:(6:Rat)<=(((2*(j:Int)+2)*(2*(j:Int)+2+1):Int):Rat):=by exact_mod_cast hk
  have e3:(((2*(j:Int)+2)*(2*(j:Int)+2+1):Int):Rat)*e x (2*j+3)=x*x*e x (2*j+1):=by
   have a:=gU x (2*j+1)
   have b:=gU x (2*j+2)
   have c:(((2*(j:Int)+2)*(2*(j:Int)+2+1):Int):Rat)=((2*j+1+1:Nat):Rat)*((2*j+2+1:Nat):Rat):=by push_cast; grind
   rw [c,Rat.mul_assoc,show 2*j+3=2*j+2+1 by omega,b]
   have:((2*j+1+1:Nat):Rat)*(x*e x (2*j+2))=x*(((2*j+1+1:Nat):Rat)*e x (2*j+1+1)):=by grind
   rw [this,a]; grind
  rw [Ny] at ta tb
  show ((pT (y*y / PP) y j*(y*y / PP) / PP / ((2*(j:Int)+2)*(2*(j:Int)+2+1)):Int):Rat)<=U*e x (2*j+3)/\U*e x (2*j+3)<=((pT (y*y / PP) y j*(y*y / PP) / PP / ((2*(j:Int)+2)*(2*(j:Int)+2+1)):Int):Rat)+5
  have ep:((pT (y*y / PP) y j*(y*y / PP):Int):Rat)=(pT (y*y / PP) y j:Rat)*((y*y / PP:Int):Rat):=by push_cast; rfl
  rw [ep] at ta tb
  clear ep
  have e4:=qx x0 (2*j+1)
  generalize pT (y*y / PP) y j*(y*y / PP) / PP / ((2*(j:Int)+2)*(2*(j:Int)+2+1))=r at *
  generalize pT (y*y / PP) y j*(y*y / PP) / PP=a at *
  generalize (((2*(j:Int)+2)*(2*(j:Int)+2+1):Int):Rat)=k at *
  generalize ((pT (y*y / PP) y j:Int):Rat)=p at *
  generalize ((y*y / PP:Int):Rat)=q at *
  generalize e x (2*j+1)=t at *
  generalize e x (2*j+3)=t' at *
  generalize (r:Rat)=r at *
  generalize (a:Rat)=a at *
  exact step hU x0 x1 nj pyr s0r i1 i2 sa sb ta tb ua ub hkr e3 e4
def qS (x:Rat):Nat->Rat
 | 0=>0
 | j+1=>match decide (j % 2=0) with|true=>qS x j+e x (2*j+1)|false=>qS x j - e x (2*j+1)
theorem acy (x:Rat):∀ j,Z sF (2*j) x=qS x j:=by
 intro j
 induction j with
 | zero=>rfl
 | succ j ih=>
  show sum _ (2*j+1+1)=_
  rw [sum,sum]
  show Z sF (2*j) x+_+_=_
  rw [ih,qS]
  by_cases h:j % 2=0
  .have e1:sF (2*j)=0:=by unfold sF; rw [show 2*j % 4=0 by omega]; rfl
   have e2:sF (2*j+1)=1:=by unfold sF; rw [show (2*j+1) % 4=1 by omega]; rfl
   rw [decide_eq_true h,e1,e2]; grind
  .have e1:sF (2*j)=0:=by unfold sF; rw [show 2*j % 4=2 by omega]; rfl
   have e2:sF (2*j+1)=-1:=by unfold sF; rw [show (2*j+1) % 4=3 by omega]; rfl
   rw [decide_eq_false h,e1,e2]; grind
theorem VD {y:Int} (h0:0<=y) (h1:y*10<=16*PP):∀ j:Nat,(pS (y*y / PP) y j:Rat)<=U*qS ((y:Rat) / U) j+5*j/\U*qS ((y:Rat) / U) j<=(pS (y*y / PP) y j:Rat)+5*j:=by
 intro j
 induction j with
 | zero=>
  have z:qS ((y:Rat) / U) 0=0:=rfl
  have z2:pS (y*y / PP) y 0=0:=rfl
  rw [z,z2]; simp; decide +kernel
 | succ j ih=>
  obtain ⟨i1,i2⟩:=ih
  obtain ⟨t1,t2⟩:=Ll h0 h1 j
  rw [pS,qS]
  have c:((j+1:Nat):Rat)=(j:Rat)+1:=by push_cast; rfl
  rw [c]
  by_cases h:j % 2=0
  .rw [decide_eq_true h]; dsimp only; push_cast; grind
  .rw [decide_eq_false h]; dsimp only; push_cast; grind
theorem e65:U*e (8 / 5) 65<1:=by decide +kernel
theorem aaI {y:Int} (h0:0<=y) (h1:y*10<=16*PP):0<=(y:Rat) / U/\(y:Rat) / U<=8 / 5/\(y:Rat) / U*U=(y:Rat):=by
 have hU:(0:Rat)<U:=by decide
 have y0:(0:Rat)<=(y:Rat):=by exact_mod_cast h0
 have y1:(y:Rat)*10<=16*U:=by rw [<- Ny]; exact_mod_cast h1
 have hx:(y:Rat) / U*U=(y:Rat):=by grind
 refine ⟨?_,?_,hx⟩
 .refine Rat.le_of_mul_le_mul_right (c:=U) ?_ hU
  rw [hx]; grind
 .refine Rat.le_of_mul_le_mul_right (c:=U) ?_ hU
  rw [hx]; grind
theorem WK {y:Int} (h0:0<=y) (h1:y*10<=16*PP):0<=y*y / PP/\y*y / PP<=3*PP:=by
 have hP:0<PP:=gm
 refine ⟨Int.ediv_nonneg (Int.mul_nonneg h0 h0) (by omega),Int.ediv_le_of_le_mul hP ?_⟩
 have a:y*10*(y*10)<=16*PP*(16*PP):=Int.mul_le_mul h1 h1 (by omega) (by omega)
 have b:0<=PP*PP:=Int.mul_nonneg (by omega) (by omega)
 grind
theorem CE {y:Int} (h0:0<=y) (h1:y*10<=16*PP):l6 (y*y / PP) 200 2 y y=pS (y*y / PP) y 32/\(l6 (y*y / PP) 200 2 y y:Rat)<=U*S 64 ((y:Rat) / U)+160/\U*S 64 ((y:Rat) / U)<=(l6 (y*y / PP) 200 2 y y:Rat)+160:=by
 obtain ⟨x0,x1,hx⟩:=aaI h0 h1
 obtain ⟨s0,s1⟩:=WK h0 h1
 have z:pT (y*y / PP) y 32=0:=by
  have a:=(Ll h0 h1 32).1
  have b:=VB x0 x1 65
  have c:=e65
  have d:U*e ((y:Rat) / U) 65<=U*e (8 / 5) 65:=Rat.mul_le_mul_of_nonneg_left b (by decide)
  have f:(pT (y*y / PP) y 32:Rat)<1:=by
   have:U*e ((y:Rat) / U) (2*32+1)=U*e ((y:Rat) / U) 65:=rfl
   grind
  have g:pT (y*y / PP) y 32<1:=by exact_mod_cast f
  have:=(qy s0 s1 h0 32).1
  omega
 have es:l6 (y*y / PP) 200 2 y y=pS (y*y / PP) y 32:=by
  have a:=Lj (sq:=y*y / PP) (y:=y) 200 0
  have b:pS (y*y / PP) y (0+1)=y:=by show 0+y=y; omega
  rw [b] at a
  rw [show (2:Int)=2*((0:Nat):Int)+2 by decide]
  refine Eq.trans a (Li z _ (by omega))
 have n:=VD h0 h1 32
 rw [es]
 have e2:S 64 ((y:Rat) / U)=qS ((y:Rat) / U) 32:=acy _ 32
 rw [e2]
 have:(5:Rat)*((32:Nat):Rat)=160:=by decide +kernel
 rw [this] at n
 exact ⟨rfl,n⟩
theorem aaJ {x y:Rat} (hx:0<=x) (hx1:x<=8 / 5) (hy:0<=y) (hy1:y<=8 / 5) {d:Rat} (h1:x<=y+d) (h2:y<=x+d):S 64 x<=S 64 y+5*d/\S 64 y<=S 64 x+5*d:=by
 have key:∀ {x y:Rat},0<=x->x<=y->y<=8 / 5->y<=x+d->S 64 x<=S 64 y+5*d/\S 64 y<=S 64 x+5*d:=by
  intro x y h0 h1 h2 h3
  have a:=Q9 Q6 h0 h1 63
  have b:=CB (show 0<=y by grind) h2 63
  have c:Z one 63 (8 / 5)<=Z one 64 (8 / 5):=qw (by omega) fun i _=>by
   have:=qx (show (0:Rat)<=8 / 5 by grind) i
   simp only [one]; grind
  have z5:=Z5
  have nn:0<=Z one 63 y:=JK fun i _=>by
   have:=qx (show 0<=y by grind) i
   simp only [one]; grind
  have m:=Rat.mul_le_mul_of_nonneg_left (Rat.le_trans (Rat.le_trans b c) z5) (show 0<=y - x by grind)
  unfold S
  grind
 rcases Rat.le_total (a:=x) (b:=y) with h|h
 .exact key hx h hy1 h2
 .have:=key hy h hx1 h1
  exact ⟨this.2,this.1⟩
theorem VE {a b k:Int} (hb:0<b) (h1:k*b<=a) (h2:a<(k+1)*b):a / b=k:=by
 have h3:k<=a / b:=(Int.le_ediv_iff_mul_le hb).2 h1
 have h4:a / b<k+1:=(Int.ediv_lt_iff_lt_mul hb).2 h2
 omega
theorem aaK {m d:Int} (hm:0<=m) (hd:m<=d) (h0:0<d):0<=(m:Rat) / (d:Rat)/\(m:Rat) / (d:Rat)<=1/\(m:Rat) / (d:Rat)*(d:Rat)=(m:Rat):=by
 have d0:(0:Rat)<(d:Rat):=by exact_mod_cast h0
 have m0:(0:Rat)<=(m:Rat):=by exact_mod_cast hm
 have md:(m:Rat)<=(d:Rat):=by exact_mod_cast hd
 have e:(m:Rat) / (d:Rat)*(d:Rat)=(m:Rat):=by grind
 refine ⟨?_,?_,e⟩
 .refine Rat.le_of_mul_le_mul_right (c:=(d:Rat)) ?_ d0
  rw [e]; grind
 .refine Rat.le_of_mul_le_mul_right (c:=(d:Rat)) ?_ d0
  rw [e]; grind
theorem Lm:0<=hp/\hp<=8 / 5/\hp*U<=((RG:Int):Rat)/\((RG:Int):Rat)<=hp*U+17:=by
 refine ⟨?_,?_,?_,?_⟩ <;> decide +kernel
theorem ED {q:Rat} (h0:0<=q) (h1:q<=1):0<=hp*q/\hp*q<=8 / 5:=by
 obtain ⟨a,b,_,_⟩:=Lm
 have:=Rat.mul_le_mul_of_nonneg_left h1 a
 exact ⟨Rat.mul_nonneg a h0,by grind⟩
theorem Nz {m d:Int} (hm:0<=m) (hd:m<=d) (h0:0<d):(mR m d:Rat)<=U*tru ((m:Rat) / (d:Rat))+245/\U*tru ((m:Rat) / (d:Rat))<=(mR m d:Rat)+245:=by
 obtain ⟨q0,q1,qd⟩:=aaK hm hd h0
 obtain ⟨p0,p1⟩:=ED q0 q1
 obtain ⟨_,_,r0,r1⟩:=Lm
 have hU:(0:Rat)<U:=by decide
 have d0:(0:Rat)<(d:Rat):=by exact_mod_cast h0
 have y0:0<=bz m d:=Int.ediv_nonneg (Int.mul_nonneg (by decide) hm) (by omega)
 have y1:bz m d<=RG:=Int.ediv_le_of_le_mul h0 (Int.mul_le_mul_of_nonneg_left hd (by decide))
 have y2:bz m d*10<=16*PP:=by
  have:RG*10<=16*PP:=by decide
  omega
 obtain ⟨x0,x1,hx⟩:=aaI y0 y2
 have n:=(CE y0 y2).2
 have a:=EB (RG*m) d h0
 have b:=EC (RG*m) d h0
 have ya:(bz m d:Rat)<=(RG:Rat)*((m:Rat) / (d:Rat)):=by
  refine Rat.le_of_mul_le_mul_right (c:=(d:Rat)) ?_ d0
  rw [Rat.mul_assoc,qd]
  have:((RG*m:Int):Rat)=(RG:Rat)*(m:Rat):=by push_cast; rfl
  rw [this] at a
  exact a
 have yb:(RG:Rat)*((m:Rat) / (d:Rat))<=(bz m d:Rat)+1:=by
  refine Rat.le_of_mul_le_mul_right (c:=(d:Rat)) ?_ d0
  rw [Rat.mul_assoc,qd]
  have:((RG*m:Int):Rat)=(RG:Rat)*(m:Rat):=by push_cast; rfl
  rw [this] at b
  unfold bz
  grind
 generalize (m:Rat) / (d:Rat)=q at *
 have c1:=Rat.mul_le_mul_of_nonneg_right r0 q0
 have c2:=Rat.mul_le_mul_of_nonneg_right r1 q0
 have l:=aaJ x0 x1 p0 p1 (d:=17 / U)
  (by
   refine Rat.le_of_mul_le_mul_right (c:=U) ?_ hU
   have:(hp*q+17 / U)*U=hp*U*q+17:=by grind
   rw [hx,this]; grind)
  (by
   refine Rat.le_of_mul_le_mul_right (c:=U) ?_ hU
   have:((bz m d:Rat) / U+17 / U)*U=(bz m d:Rat)+17:=by grind
   rw [this]; grind)
 have u1:=Rat.mul_le_mul_of_nonneg_left l.1 (show 0<=U by grind)
 have u2:=Rat.mul_le_mul_of_nonneg_left l.2 (show 0<=U by grind)
 have eu:∀ s:Rat,U*(s+5*(17 / U))=U*s+85:=fun s=>by grind
 rw [eu] at u1 u2
 unfold tru
 unfold mR
 grind
theorem Rb {m d k:Int} (hm:0<m) (hd:m<d) (hD:d<=4294967296) (h:Ra ((m:Rat) / (d:Rat)) k):SinG m d/\kX m d=k:=by
 have P0:0<PP:=gm
 have y0:0<=bz m d:=Int.ediv_nonneg (Int.mul_nonneg (by decide) (by omega)) (by omega)
 have y1:bz m d<=RG:=Int.ediv_le_of_le_mul (by omega) (Int.mul_le_mul_of_nonneg_left (by omega) (by decide))
 have rp:RG*10<=16*PP:=by decide
 have y3:365700000000000000000000000000000000<=bz m d:=by
  refine (Int.le_ediv_iff_mul_le (by omega)).2 ?_
  have a:365700000000000000000000000000000000*d<=365700000000000000000000000000000000*4294967296:=Int.mul_le_mul_of_nonneg_left hD (by decide)
  have b:RG*1<=RG*m:=Int.mul_le_mul_of_nonneg_left (by omega) (by decide)
  have c:(365700000000000000000000000000000000:Int)*4294967296<=RG*1:=by decide
  omega
 obtain ⟨s0,s1⟩:=WK y0 (by omega)
 have es:=(CE y0 (by omega)).1
 have bd:=aaH s0 s1 y0 15
 have t0:=qy s0 s1 y0 0
 have t32:=(qy s0 s1 y0 32).1
 have e0:pT (bz m d*bz m d / PP) (bz m d) 0=bz m d:=rfl
 have n1:mR m d=pS (bz m d*bz m d / PP) (bz m d) (2*15+2):=es
 have bt:0<=pT (bz m d*bz m d / PP) (bz m d) (2*15+2):=t32
 have t0':2*pT (bz m d*bz m d / PP) (bz m d) 1<=bz m d:=t0.2
 have lo:bz m d - pT (bz m d*bz m d / PP) (bz m d) 1<=mR m d:=by rw [n1]; exact bd.1
 have hi:mR m d<=bz m d:=by rw [n1]; omega
 have near:=Nz (m:=m) (d:=d) (by omega) (by omega) (by omega)
 obtain ⟨k1,k2⟩:=h
 generalize hT:tru ((m:Rat) / (d:Rat))=T at *
 have hd1:(100000000+245)*4294967296<U*dl:=by decide +kernel
 have hU:(0:Rat)<U:=by decide
 have m1:=Rat.mul_le_mul_of_nonneg_left k1 (show 0<=U by grind)
 have m2:=Rat.mul_le_mul_of_nonneg_left k2 (show 0<=U by grind)
 have key:∀ z:Int,-100000000<=z->z<=100000000->(mR m d+z)*4294967296 / PP=k:=by
  intro z z0 z1
  have z0r:((-100000000:Int):Rat)<=(z:Rat):=Rat.intCast_le_intCast.2 z0
  have z1r:(z:Rat)<=((100000000:Int):Rat):=Rat.intCast_le_intCast.2 z1
  have e1:((-100000000:Int):Rat)=-100000000:=by decide +kernel
  have e2:((100000000:Int):Rat)=100000000:=by decide +kernel
  have e3:((4294967296:Int):Rat)=4294967296:=by decide +kernel
  rw [e1] at z0r
  rw [e2] at z1r
  apply VE P0
  .apply Rat.intCast_le_intCast.1
   rw [Rat.intCast_mul,Rat.intCast_mul,Rat.intCast_add,Ny,e3]
   grind
  .apply Rat.intCast_lt_intCast.1
   rw [Rat.intCast_mul,Rat.intCast_mul,Rat.intCast_add,Rat.intCast_add,Ny,e3,Rat.intCast_one]
   grind
 have kl:=key (-100000000) (by decide) (by decide)
 have kh:=key 100000000 (by decide) (by decide)
 have el:kX m d=k:=by
  unfold kX
  rw [<- kl]; rfl
 refine ⟨⟨?_,by omega,by omega,by rw [el]; exact kh⟩,el⟩
 have q1:365700000000000000000000000000000000*365700000000000000000000000000000000<=bz m d*bz m d:=Int.mul_le_mul y3 y3 (by decide) y0
 have q2:(133736490000000000000000000:Int)<=bz m d*bz m d / PP:=(Int.le_ediv_iff_mul_le P0).2 (Int.le_trans (by decide) q1)
 have q3:365700000000000000000000000000000000*133736490000000000000000000<=bz m d*(bz m d*bz m d / PP):=Int.mul_le_mul y3 q2 (by decide) y0
 have q4:(1000:Int)<=bz m d*(bz m d*bz m d / PP) / PP:=(Int.le_ediv_iff_mul_le P0).2 (Int.le_trans (by decide) q3)
 have q5:(1:Int)<=bz m d*(bz m d*bz m d / PP) / PP / (2*(2+1)):=(Int.le_ediv_iff_mul_le (by decide)).2 (by omega)
 omega
end Go.Sn
namespace Go.Ln
open Go.Sn
def nr (x y E:Rat):Prop:=x<=y+E/\y<=x+E
theorem Re {x y A B:Rat} (hx:-A<=x) (hx2:x<=A) (hy:-B<=y) (hy2:y<=B):-(A*B)<=x*y/\x*y<=A*B:=by
 have h1:=Rat.mul_nonneg (a:=A - x) (b:=B - y) (by grind) (by grind)
 have h2:=Rat.mul_nonneg (a:=A+x) (b:=B+y) (by grind) (by grind)
 have h3:=Rat.mul_nonneg (a:=A - x) (b:=B+y) (by grind) (by grind)
 have h4:=Rat.mul_nonneg (a:=A+x) (b:=B - y) (by grind) (by grind)
 constructor <;> grind
theorem wY {s A E c B F:Rat} (h1:nr s A E) (h2:nr c B F) (hs:0<=s) (hc:0<=c):nr (s*c) (A*B) (s*F+E*(c+F)):=by
 obtain ⟨a1,a2⟩:=h1
 obtain ⟨b1,b2⟩:=h2
 have m1:=Re (x:=s) (y:=c - B) (A:=s) (B:=F) (by grind) (by grind) (by grind) (by grind)
 have m2:=Re (x:=s - A) (y:=B) (A:=E) (B:=c+F) (by grind) (by grind) (by grind) (by grind)
 unfold nr
 constructor <;> grind
theorem Rf {a A E b B F:Rat} (h1:nr a A E) (h2:nr b B F):nr (a+b) (A+B) (E+F):=by
 unfold nr at *; constructor <;> grind
theorem Y5 {a A E b B F:Rat} (h1:nr a A E) (h2:nr b B F):nr (a - b) (A - B) (E+F):=by
 unfold nr at *; constructor <;> grind
theorem mW {a A E F:Rat} (h:nr a A E) (hf:E<=F):nr a A F:=by
 unfold nr at *; constructor <;> grind
theorem gq (n:Nat):(0:Rat)<=(n:Rat):=by exact_mod_cast Nat.zero_le n
theorem pw_pos (r:Nat):(0:Rat)<(2:Rat) ^ r:=by
 induction r with
 | zero=>simp; decide +kernel
 | succ r ih=>rw [Rat.pow_succ]; grind
theorem oK (r:Nat):((2 ^ r:Nat):Rat)=(2:Rat) ^ r:=by push_cast; rfl
theorem Rh {z r E:Nat} {X T:Rat} (h:nr (z:Rat) ((2:Rat) ^ r*X) T) (hE:T<=(2:Rat) ^ r*(E:Rat)):nr ((z >>> r:Nat):Rat) X ((E:Rat)+1):=by
 have p:=pw_pos r
 have h1:(z >>> r)*2 ^ r<=z:=by rw [Nat.shiftRight_eq_div_pow]; exact Nat.div_mul_le_self ..
 have h2:z<((z >>> r)+1)*2 ^ r:=by
  rw [Nat.shiftRight_eq_div_pow]
  have:=Nat.lt_mul_div_succ z (Nat.two_pow_pos r)
  rw [Nat.mul_comm]; exact this
 have h1r:((z >>> r:Nat):Rat)*(2:Rat) ^ r<=(z:Rat):=by rw [<- oK]; exact_mod_cast h1
 have h2r:(z:Rat)<(((z >>> r:Nat):Rat)+1)*(2:Rat) ^ r:=by rw [<- oK]; exact_mod_cast h2
 generalize ((z >>> r:Nat):Rat)=y at *
 generalize (2:Rat) ^ r=k at *
 obtain ⟨a,b⟩:=h
 constructor
 .refine Rat.le_of_mul_le_mul_right (c:=k) ?_ p
  grind
 .refine Rat.le_of_mul_le_mul_right (c:=k) ?_ p
  grind
def iX (r B E1 c2 s2 E2:Nat):Nat:=((B*E2+E1*(c2+s2+2*E2)) >>> r)+3
theorem AJ {r:Nat} (hr:r<=160) {x:Rat} (h0:0<=x) (h1:x<=8 / 5):(2:Rat) ^ r*tail 64 x<=1:=by
 have a:=(qY h0 h1 64).2
 have b:=aaG
 have c:=(qY h0 h1 64).1
 have m:((2 ^ r:Nat):Rat)<=((2 ^ 230:Nat):Rat):=by
  have:2 ^ r<=2 ^ 230:=Nat.pow_le_pow_right (by decide) (by omega)
  exact_mod_cast this
 rw [oK,oK] at m
 have d:=Rat.mul_le_mul_of_nonneg_right m c
 have e:=Rat.mul_le_mul_of_nonneg_left a (show (0:Rat)<=(2:Rat) ^ 230 by have:=pw_pos 230; grind)
 grind
theorem rot {r:Nat} (hr:r<=160) {a b:Rat} (ha:0<=a) (hb:0<=b) (hab:a+b<=8 / 5) {s1 c1 s2 c2 E1 E2 B:Nat}
  (h1:nr (s1:Rat) ((2:Rat) ^ r*S 64 a) E1) (h2:nr (c1:Rat) ((2:Rat) ^ r*C 64 a) E1) (h3:nr (s2:Rat) ((2:Rat) ^ r*S 64 b) E2) (h4:nr (c2:Rat) ((2:Rat) ^ r*C 64 b) E2) (hB:s1+c1<=B):
  nr (((s1*c2+c1*s2) >>> r:Nat):Rat) ((2:Rat) ^ r*S 64 (a+b)) (iX r B E1 c2 s2 E2:Nat) /\
  (s1*s2<=c1*c2->nr (((c1*c2 - s1*s2) >>> r:Nat):Rat) ((2:Rat) ^ r*C 64 (a+b)) (iX r B E1 c2 s2 E2:Nat)):=by
 have p:=pw_pos r
 have t:=AJ hr (show 0<=a+b by grind) hab
 have sa:=EA ha hb 64
 have ca:=Lh ha hb 64
 have n1:=gq s1
 have n2:=gq c1
 have n3:=gq s2
 have n4:=gq c2
 have nE1:=gq E1
 have nE2:=gq E2
 have hE:((s1:Rat)+(c1:Rat))*(E2:Rat)+(E1:Rat)*((c2:Rat)+(s2:Rat)+2*(E2:Rat))+(2:Rat) ^ r<=(2:Rat) ^ r*((((B*E2+E1*(c2+s2+2*E2)) >>> r)+2:Nat):Rat):=by
  have h3:(s1+c1)*E2+E1*(c2+s2+2*E2)+2 ^ r<=2 ^ r*(((B*E2+E1*(c2+s2+2*E2)) >>> r)+2):=by
   have h0:=Nat.mul_le_mul_right E2 hB
   generalize E1*(c2+s2+2*E2)=Y at *
   generalize (s1+c1)*E2=Z at *
   generalize B*E2=V at *
   rw [Nat.shiftRight_eq_div_pow]
   have:=Nat.lt_mul_div_succ (V+Y) (Nat.two_pow_pos r)
   rw [Nat.mul_add] at this ⊢
   omega
  have:(((s1+c1)*E2+E1*(c2+s2+2*E2)+2 ^ r:Nat):Rat)<=((2 ^ r*(((B*E2+E1*(c2+s2+2*E2)) >>> r)+2):Nat):Rat):=by exact_mod_cast h3
  push_cast at this
  push_cast
  exact this
 have fin:∀ {z:Nat} {X:Rat},nr (z:Rat) ((2:Rat) ^ r*((2:Rat) ^ r*X)) (((s1:Rat)+(c1:Rat))*(E2:Rat)+(E1:Rat)*((c2:Rat)+(s2:Rat)+2*(E2:Rat))+(2:Rat) ^ r)->nr ((z >>> r:Nat):Rat) ((2:Rat) ^ r*X) (iX r B E1 c2 s2 E2:Nat):=by
  intro z X h
  have:=Rh h hE
  have e:((iX r B E1 c2 s2 E2:Nat):Rat)=((((B*E2+E1*(c2+s2+2*E2)) >>> r)+2:Nat):Rat)+1:=by
   unfold iX; push_cast; grind
  rw [e]; exact this
 have t2:=Rat.mul_le_mul_of_nonneg_left t (show 0<=(2:Rat) ^ r by grind)
 constructor
 .apply fin
  have a1:=Rf (wY h1 h4 n1 n4) (wY h2 h3 n2 n3)
  push_cast
  generalize (2:Rat) ^ r=k at *
  have k2:=Rat.mul_le_mul_of_nonneg_left sa.1 (show 0<=k*k from Rat.mul_nonneg (by grind) (by grind))
  have k3:=Rat.mul_le_mul_of_nonneg_left sa.2 (show 0<=k*k from Rat.mul_nonneg (by grind) (by grind))
  unfold nr at *
  constructor <;> grind
 .intro hle
  apply fin
  have a1:=Y5 (wY h2 h4 n2 n4) (wY h1 h3 n1 n3)
  have e:((c1*c2 - s1*s2:Nat):Rat)=(c1:Rat)*(c2:Rat) - (s1:Rat)*(s2:Rat):=by
   have h:c1*c2 - s1*s2+s1*s2=c1*c2:=by omega
   have:((c1*c2 - s1*s2+s1*s2:Nat):Rat)=((c1*c2:Nat):Rat):=by rw [h]
   push_cast at this
   grind
  rw [e]
  generalize (2:Rat) ^ r=k at *
  have k2:=Rat.mul_le_mul_of_nonneg_left ca.1 (show 0<=k*k from Rat.mul_nonneg (by grind) (by grind))
  have k3:=Rat.mul_le_mul_of_nonneg_left ca.2 (show 0<=k*k from Rat.mul_nonneg (by grind) (by grind))
  unfold nr at *
  constructor <;> grind
def fU {α:Type} (n:Nat) (k:Nat->α):α:=match n with|0=>k 0|m+1=>k (Nat.succ m)
theorem vK {α:Type} (n:Nat) (k:Nat->α):fU n k=k n:=by cases n <;> rfl
def vC (m k CV SV c s:Nat):Nat:=CV+(((CV*c - SV*s) >>> 80) &&& (m*vJ 164 k))*2 ^ (164*2 ^ k)
def vS (m k CV SV c s:Nat):Nat:=SV+(((SV*c+CV*s) >>> 80) &&& (m*vJ 164 k))*2 ^ (164*2 ^ k)
def build:Nat->Nat->Nat->Nat->Nat->Nat->Nat->Nat->(Nat->Nat->Nat->Nat->Nat->Nat->Bool)->Bool
 | 0,_,CV,SV,EV,s,c,E,K=>K CV SV EV s c E
 | n+1,k,CV,SV,EV,s,c,E,K=>
  Nat.ble E (2 ^ 79)&&Nat.ble EV (2 ^ 70)&&Nat.ble (s*s) (c*c) &&
  fU (c >>> 80) fun cc=>fU (s >>> 80) fun ss=>fU (2 ^ 84 - 1) fun m=>
  fU (vC m k CV SV cc ss) fun CV'=>fU (vS m k CV SV cc ss) fun SV'=>fU (iX 80 (2 ^ 81) EV (cc+2 ^ 74) ss 2) fun EV'=>
  fU ((s*c+c*s) >>> 160) fun s'=>fU ((c*c - s*s) >>> 160) fun c'=>fU (iX 160 (s+c) E c s E) fun E'=>
  build n (k+1) CV' SV' EV' s' c' E' K
def Vec (η:Rat) (k E CV SV:Nat):Prop:=∃ fc fs:Nat->Nat,CV=ah 164 fc (2 ^ k)/\SV=ah 164 fs (2 ^ k)/\∀ j,j<2 ^ k->nr (fc j:Rat) ((2:Rat) ^ 80*C 64 (η*(j:Rat))) E/\nr (fs j:Rat) ((2:Rat) ^ 80*S 64 (η*(j:Rat))) E
def iB (a:Rat) (s c E:Nat):Prop:=nr (s:Rat) ((2:Rat) ^ 160*S 64 a) E/\nr (c:Rat) ((2:Rat) ^ 160*C 64 a) E
theorem S0:S 64 0=0:=by decide +kernel
theorem C0:C 64 0=1:=by decide +kernel
theorem Lp {x:Rat} (h0:0<=x) (h1:x<=1 / 500):-(1 / 100)<=S 64 x/\S 64 x<=1 / 100/\1 - 1 / 100<=C 64 x/\C 64 x<=1+1 / 100:=by
 have z:Z one 63 x<=5:=by
  have a:=CB h0 (show x<=8 / 5 by grind) 63
  have c:Z one 63 (8 / 5)<=Z one 64 (8 / 5):=qw (by omega) fun i _=>by
   have:=qx (show (0:Rat)<=8 / 5 by grind) i
   simp only [one]; grind
  exact Rat.le_trans (Rat.le_trans a c) Z5
 have z0:0<=Z one 63 x:=JK fun i _=>by
  have:=qx h0 i
  simp only [one]; grind
 have m:=Rat.mul_le_mul_of_nonneg_left z h0
 have a:=Q9 Q6 (Rat.le_refl (a:=0)) h0 63
 have b:=Q9 Q7 (Rat.le_refl (a:=0)) h0 63
 have e1:Z sF (63+1) 0=0:=S0
 have e2:Z cF (63+1) 0=1:=C0
 rw [e1] at a
 rw [e2] at b
 unfold S C
 have e3:Z sF 64 x=Z sF (63+1) x:=rfl
 have e4:Z cF 64 x=Z cF (63+1) x:=rfl
 rw [e3,e4]
 generalize Z sF (63+1) x=p at *
 generalize Z cF (63+1) x=q at *
 refine ⟨?_,?_,?_,?_⟩ <;> grind
theorem P80:(2:Rat) ^ 80=1208925819614629174706176:=by decide +kernel
theorem JL {x:Rat} (h0:0<=x) (h1:x<=1 / 500) {s c E:Nat} (hE:E<=2 ^ 70) (hc:nr (c:Rat) ((2:Rat) ^ 80*C 64 x) E) (hs:nr (s:Rat) ((2:Rat) ^ 80*S 64 x) E):2 ^ 80 - 2 ^ 74<=c/\c<=2 ^ 80+2 ^ 76/\s<=2 ^ 76:=by
 obtain ⟨s1,s2,c1,c2⟩:=Lp h0 h1
 have hEr:(E:Rat)<=((2 ^ 70:Nat):Rat):=by exact_mod_cast hE
 have e70:((2 ^ 70:Nat):Rat)=1180591620717411303424:=by decide +kernel
 rw [e70] at hEr
 rw [P80] at hc hs
 unfold nr at hc hs
 refine ⟨?_,?_,?_⟩
 .have:((2 ^ 80 - 2 ^ 74:Nat):Rat)<=(c:Rat):=by
   have e:((2 ^ 80 - 2 ^ 74:Nat):Rat)=1190036353683150593851392:=by decide +kernel
   rw [e]; grind
  exact_mod_cast this
 .have:(c:Rat)<=((2 ^ 80+2 ^ 76:Nat):Rat):=by
   have e:((2 ^ 80+2 ^ 76:Nat):Rat)=1284483683340543498125312:=by decide +kernel
   rw [e]; grind
  exact_mod_cast this
 .have:(s:Rat)<=((2 ^ 76:Nat):Rat):=by
   have e:((2 ^ 76:Nat):Rat)=75557863725914323419136:=by decide +kernel
   rw [e]; grind
  exact_mod_cast this
theorem Lr {a:Rat} {s c E:Nat} (h:iB a s c E) (hE:E<=2 ^ 80):nr ((s >>> 80:Nat):Rat) ((2:Rat) ^ 80*S 64 a) (2:Nat)/\nr ((c >>> 80:Nat):Rat) ((2:Rat) ^ 80*C 64 a) (2:Nat):=by
 have hEr:(E:Rat)<=((2 ^ 80:Nat):Rat):=by exact_mod_cast hE
 have key:∀ {z:Nat} {X:Rat},nr (z:Rat) ((2:Rat) ^ 160*X) E->nr ((z >>> 80:Nat):Rat) ((2:Rat) ^ 80*X) (2:Nat):=by
  intro z X h
  have e:(2:Rat) ^ 160*X=(2:Rat) ^ 80*((2:Rat) ^ 80*X):=by
   rw [show (2:Rat) ^ 160=(2:Rat) ^ 80*(2:Rat) ^ 80 by decide +kernel]; grind
  rw [e] at h
  have:=Rh (E:=1) h (by
   have:((1:Nat):Rat)=1:=by decide +kernel
   rw [this,<- oK]; grind)
  exact mW this (by decide +kernel)
 exact ⟨key h.1,key h.2⟩
theorem xW {a b c d:Nat} (ha:a+c<=2 ^ 81) (hb:b<=2 ^ 82) (hd:d<=2 ^ 82):a*b+c*d<=2 ^ 163:=by
 have h1:=Nat.mul_le_mul_left a hb
 have h2:=Nat.mul_le_mul_left c hd
 have h3:=Nat.mul_le_mul_right (2 ^ 82) ha
 have e:2 ^ 81*2 ^ 82=2 ^ 163:=by rw [<- Nat.pow_add]
 rw [Nat.add_mul] at h3
 omega
theorem p2 {k:Nat}:((2 ^ k:Nat):Rat)=(2:Rat) ^ k:=oK k
theorem Rj {η:Rat} (hη:0<=η) {k EV CV SV c s:Nat} (h:Vec η k EV CV SV) (hs:nr (s:Rat) ((2:Rat) ^ 80*S 64 (η*((2 ^ k:Nat):Rat))) (2:Nat)) (hc:nr (c:Rat) ((2:Rat) ^ 80*C 64 (η*((2 ^ k:Nat):Rat))) (2:Nat))
  (hx:η*((2 ^ (k+1):Nat):Rat)<=1 / 500) (hE:EV<=2 ^ 70):Vec η (k+1) (iX 80 (2 ^ 81) EV (c+2 ^ 74) s 2) (vC (2 ^ 84 - 1) k CV SV c s) (vS (2 ^ 84 - 1) k CV SV c s):=by
 obtain ⟨fc,fs,eC,eS,hv⟩:=h
 have ek:((2 ^ (k+1):Nat):Rat)=2*((2 ^ k:Nat):Rat):=by rw [Nat.pow_succ]; push_cast; grind
 have npk:=gq (2 ^ k)
 have hb0:0<=η*((2 ^ k:Nat):Rat):=Rat.mul_nonneg hη npk
 have hb1:η*((2 ^ k:Nat):Rat)<=1 / 500:=by rw [ek] at hx; grind
 have hj:∀ j:Nat,j<2 ^ k->0<=η*(j:Rat)/\η*(j:Rat)<=η*((2 ^ k:Nat):Rat):=fun j hj=>⟨Rat.mul_nonneg hη (gq j),Rat.mul_le_mul_of_nonneg_left (by exact_mod_cast Nat.le_of_lt hj) hη⟩
 obtain ⟨c0,c1,s1⟩:=JL hb0 hb1 (show 2<=2 ^ 70 by decide) hc hs
 have hv2:∀ j,j<2 ^ k->2 ^ 80 - 2 ^ 74<=fc j/\fc j<=2 ^ 80+2 ^ 76/\fs j<=2 ^ 76:=fun j h=>JL (hj j h).1 (Rat.le_trans (hj j h).2 hb1) hE (hv j h).1 (hv j h).2
 have e84:164 - 80=84:=rfl
 have hle:∀ j,j<2 ^ k->fs j*s<=fc j*c:=fun j h=>by
  obtain ⟨a1,a2,a3⟩:=hv2 j h
  exact Nat.mul_le_mul (Nat.le_trans a3 (Nat.le_trans (by decide) a1)) (Nat.le_trans s1 (Nat.le_trans (by decide) c0))
 have hlt:∀ j,j<2 ^ k->fc j*c+fs j*s<2 ^ 164:=fun j h=>by
  obtain ⟨a1,a2,a3⟩:=hv2 j h
  have:=xW (a:=fc j) (b:=c) (c:=fs j) (d:=s) (by omega) (by omega) (by omega)
  exact Nat.lt_of_le_of_lt this (by decide)
 have hlt2:∀ j,j<2 ^ k->fs j*c+fc j*s<2 ^ 164:=fun j h=>by
  obtain ⟨a1,a2,a3⟩:=hv2 j h
  have:=xW (a:=fs j) (b:=c) (c:=fc j) (d:=s) (by omega) (by omega) (by omega)
  exact Nat.lt_of_le_of_lt this (by decide)
 have lC:((CV*c - SV*s) >>> 80) &&& ((2 ^ 84 - 1)*vJ 164 k)=ah 164 (fun j=>(fc j*c - fs j*s) / 2 ^ 80) (2 ^ k):=by
  rw [yC,<- qm,eC,eS,Nat.mul_comm (ah 164 fc _),Nat.mul_comm (ah 164 fs _),jq,jq,Nv (fun j h=>by rw [Nat.mul_comm s,Nat.mul_comm c]; exact hle j h)]
  rw [il (g:=fun j=>fc j*c - fs j*s) (fun j _=>by rw [Nat.mul_comm c,Nat.mul_comm s])]
  exact Cx (p:=80) (by decide) (by decide) (fun j h=>by have:=hlt j h; omega)
 have lS:((SV*c+CV*s) >>> 80) &&& ((2 ^ 84 - 1)*vJ 164 k)=ah 164 (fun j=>(fs j*c+fc j*s) / 2 ^ 80) (2 ^ k):=by
  rw [yC,<- qm,eC,eS,Nat.mul_comm (ah 164 fc _),Nat.mul_comm (ah 164 fs _),jq,jq,kG]
  rw [il (g:=fun j=>fs j*c+fc j*s) (fun j _=>by rw [Nat.mul_comm c,Nat.mul_comm s])]
  exact Cx (p:=80) (by decide) (by decide) (fun j h=>hlt2 j h)
 have spl:∀ f g:Nat->Nat,ah 164 f (2 ^ k)+ah 164 g (2 ^ k)*2 ^ (164*2 ^ k)=ah 164 (fun i=>if i<2 ^ k then f i else g (i - 2 ^ k)) (2 ^ (k+1)):=by
  intro f g
  rw [show 2 ^ (k+1)=2 ^ k+2 ^ k by rw [Nat.pow_succ]; omega,Cy]
  rw [il (f:=fun i=>if i<2 ^ k then f i else g (i - 2 ^ k)) (g:=f) (fun i h=>by simp [h])]
  rw [il (f:=fun i=>if 2 ^ k+i<2 ^ k then f (2 ^ k+i) else g (2 ^ k+i - 2 ^ k)) (g:=g) (fun i h=>by rw [if_neg (by omega),show 2 ^ k+i - 2 ^ k=i by omega])]
 have hEE:(EV:Rat)<=(iX 80 (2 ^ 81) EV (c+2 ^ 74) s 2:Nat):=by
  have:EV<=iX 80 (2 ^ 81) EV (c+2 ^ 74) s 2:=by
   unfold iX
   rw [Nat.shiftRight_eq_div_pow]
   have h1:EV*2 ^ 80<=EV*(c+2 ^ 74+s+2*2):=Nat.mul_le_mul_left _ (by omega)
   have h2:EV<=(2 ^ 81*2+EV*(c+2 ^ 74+s+2*2)) / 2 ^ 80:=(Nat.le_div_iff_mul_le (Nat.two_pow_pos 80)).2 (by omega)
   omega
  exact_mod_cast this
 have hE2:((iX 80 (2 ^ 81) EV c s 2:Nat):Rat)<=(iX 80 (2 ^ 81) EV (c+2 ^ 74) s 2:Nat):=by
  have:iX 80 (2 ^ 81) EV c s 2<=iX 80 (2 ^ 81) EV (c+2 ^ 74) s 2:=by
   unfold iX
   rw [Nat.shiftRight_eq_div_pow,Nat.shiftRight_eq_div_pow]
   have h1:EV*(c+s+2*2)<=EV*(c+2 ^ 74+s+2*2):=Nat.mul_le_mul_left _ (by omega)
   exact Nat.add_le_add_right (Nat.div_le_div_right (by omega)) 3
  exact_mod_cast this
 refine ⟨fun i=>if i<2 ^ k then fc i else (fc (i - 2 ^ k)*c - fs (i - 2 ^ k)*s) / 2 ^ 80,fun i=>if i<2 ^ k then fs i else (fs (i - 2 ^ k)*c+fc (i - 2 ^ k)*s) / 2 ^ 80,?_,?_,?_⟩
 .unfold vC
  rw [lC,eC]; exact spl _ _
 .unfold vS
  rw [lS,eS]; exact spl _ _
 .intro i hi
  dsimp only
  by_cases h:i<2 ^ k
  .rw [if_pos h,if_pos h]
   have hh:=hv i h
   exact ⟨mW hh.1 hEE,mW hh.2 hEE⟩
  .rw [if_neg h,if_neg h]
   have hi2:i - 2 ^ k<2 ^ k:=by rw [Nat.pow_succ] at hi; omega
   obtain ⟨a1,a2,a3⟩:=hv2 _ hi2
   obtain ⟨g1,g2⟩:=hj _ hi2
   have ei:η*(i:Rat)=η*((i - 2 ^ k:Nat):Rat)+η*((2 ^ k:Nat):Rat):=by
    have:((i - 2 ^ k+2 ^ k:Nat):Rat)=(i:Rat):=by rw [Nat.sub_add_cancel (by omega)]
    rw [<- this]; push_cast; grind
   have r:=rot (r:=80) (by decide) g1 hb0 (by grind) (hv _ hi2).2 (hv _ hi2).1 hs hc (B:=2 ^ 81) (by omega)
   rw [<- Nat.shiftRight_eq_div_pow,<- Nat.shiftRight_eq_div_pow,ei]
   exact ⟨mW (r.2 (hle _ hi2)) hE2,mW r.1 hE2⟩
theorem H9 {a b:Rat} (ha:0<=a) (hb:0<=b) (hab:a+b<=8 / 5) {s1 c1 E1 s2 c2 E2:Nat} (h1:iB a s1 c1 E1) (h2:iB b s2 c2 E2) (hle:s1*s2<=c1*c2):
  iB (a+b) ((s1*c2+c1*s2) >>> 160) ((c1*c2 - s1*s2) >>> 160) (iX 160 (s1+c1) E1 c2 s2 E2):=by
 have r:=rot (r:=160) (by decide) ha hb hab h1.1 h1.2 h2.1 h2.2 (Nat.le_refl _)
 exact ⟨r.1,r.2 hle⟩
theorem build_ok {η:Rat} (hη:0<=η):∀ (n k CV SV EV s c E:Nat) (K:Nat->Nat->Nat->Nat->Nat->Nat->Bool),Vec η k EV CV SV->iB (η*((2 ^ k:Nat):Rat)) s c E->η*((2 ^ (k+n):Nat):Rat)<=1 / 500->build n k CV SV EV s c E K=true ->
  ∃ CV' SV' EV' s' c' E',Vec η (k+n) EV' CV' SV'/\iB (η*((2 ^ (k+n):Nat):Rat)) s' c' E'/\K CV' SV' EV' s' c' E'=true
 | 0,k,CV,SV,EV,s,c,E,K,hv,hs,_,h=>⟨_,_,_,_,_,_,hv,hs,h⟩
 | n+1,k,CV,SV,EV,s,c,E,K,hv,hs,hx,h=>by
  rw [build] at h
  simp only [vK,Bool.and_eq_true,Nat.ble_eq] at h
  obtain ⟨⟨⟨h1,h2⟩,h3⟩,h4⟩:=h
  have hle:∀ {i j:Nat},i<=j->η*((2 ^ i:Nat):Rat)<=η*((2 ^ j:Nat):Rat):=fun {i j} hij=>Rat.mul_le_mul_of_nonneg_left (by exact_mod_cast Nat.pow_le_pow_right (by decide) hij) hη
  have hx1:η*((2 ^ (k+1):Nat):Rat)<=1 / 500:=Rat.le_trans (hle (by omega)) hx
  have hk0:0<=η*((2 ^ k:Nat):Rat):=Rat.mul_nonneg hη (gq _)
  have ek:η*((2 ^ (k+1):Nat):Rat)=η*((2 ^ k:Nat):Rat)+η*((2 ^ k:Nat):Rat):=by rw [Nat.pow_succ]; push_cast; grind
  obtain ⟨g1,g2⟩:=Lr hs (Nat.le_trans h1 (by decide))
  have v2:=Rj hη hv g1 g2 hx1 h2
  have s2:=H9 hk0 hk0 (by rw [<- ek]; grind) hs hs h3
  rw [<- ek] at s2
  have ih:=build_ok hη n (k+1) _ _ _ _ _ _ K v2 s2 (by rw [show k+1+n=k+(n+1) by omega]; exact hx) h4
  rw [show k+1+n=k+(n+1) by omega] at ih
  exact ih
theorem aaL {η:Rat}:Vec η 0 0 (2 ^ 80) 0:=by
 refine ⟨fun _=>2 ^ 80,fun _=>0,by simp [ah],by simp [ah],fun j hj=>?_⟩
 have:j=0:=by omega
 subst this
 have e:η*((0:Nat):Rat)=0:=by simp
 rw [e,S0,C0]
 have z:((0:Nat):Rat)=0:=by simp
 rw [z,oK]
 unfold nr
 refine ⟨⟨?_,?_⟩,⟨?_,?_⟩⟩ <;> grind
def VG (x:Rat) (k:Int):Prop:=(k:Rat)+dl<=4294967296*S 64 x/\4294967296*S 64 x<=(k:Rat)+1 - dl
def VH (b xb ex:Nat):Nat:=match Nat.beq b xb with|true=>ex|false=>0
def tst (CV SV EE MM KK HH xb ex b s c E:Nat):Bool:=
 fU (s >>> 80) fun sa=>fU (c >>> 80) fun ca=>
 Nat.ble E (2 ^ 80)&&Nat.ble (sa+ca) (2 ^ 82)&&far 164 65536 128 0 (sa*CV+ca*SV+VH b xb ex) EE MM KK HH
def run (CV SV sL cL EL EE MM KK HH xb ex:Nat) (fin:Nat->Nat->Nat->Nat->Bool):Nat->Nat->Nat->Nat->Nat->Bool
 | 0,b,s,c,E=>fin b s c E
 | n+1,b,s,c,E=>
  tst CV SV EE MM KK HH xb ex b s c E&&Nat.ble (s*sL) (c*cL) &&
  fU (b+1) fun b'=>fU ((s*cL+c*sL) >>> 160) fun s'=>fU ((c*cL - s*sL) >>> 160) fun c'=>fU (iX 160 (s+c) E cL sL EL) fun E'=>
  run CV SV sL cL EL EE MM KK HH xb ex fin n b' s' c' E'
structure Cst (N EE MM KK HH:Nat):Prop where
 e:EE=ah 164 (fun _=>2 ^ 94) N
 m:MM=ah 164 (fun _=>2 ^ 128 - 1) N
 k:KK=ah 164 (fun _=>2 ^ 128 - 2*2 ^ 94) N
 h:HH=ah 164 (fun _=>2 ^ 128) N
def bG (η:Rat) (xb xj b:Nat):Prop:=∀ j,j<65536->¬(b=xb/\j=xj)->∃ k:Int,VG (η*((b*65536+j:Nat):Rat)) k
theorem Rk {x:Nat} {T:Rat} (h:2*2 ^ 94<=(x+2 ^ 94) % 2 ^ 128) (hn:nr (x:Rat) ((2:Rat) ^ 160*T) ((2 ^ 92:Nat):Rat)):∃ k:Int,(k:Rat)+dl<=4294967296*T/\4294967296*T<=(k:Rat)+1 - dl:=by
 have h1:=Nat.div_add_mod (x+2 ^ 94) (2 ^ 128)
 have h2:=Nat.mod_lt (x+2 ^ 94) (show 2 ^ 128>0 by decide)
 refine ⟨((x+2 ^ 94) / 2 ^ 128:Nat),?_⟩
 generalize (x+2 ^ 94) / 2 ^ 128=k at *
 have a:k*2 ^ 128+2 ^ 94<=x:=by omega
 have b:x+2 ^ 94<=(k+1)*2 ^ 128:=by omega
 have ar:((k*2 ^ 128+2 ^ 94:Nat):Rat)<=(x:Rat):=by exact_mod_cast a
 have br:((x+2 ^ 94:Nat):Rat)<=(((k+1)*2 ^ 128:Nat):Rat):=by exact_mod_cast b
 rw [Rat.natCast_add,Rat.natCast_mul] at ar
 rw [Rat.natCast_add,Rat.natCast_mul,Rat.natCast_add] at br
 have e1:((2 ^ 128:Nat):Rat)=340282366920938463463374607431768211456:=by decide +kernel
 have e2:((2 ^ 94:Nat):Rat)=19807040628566084398385987584:=by decide +kernel
 have e3:((2 ^ 92:Nat):Rat)=4951760157141521099596496896:=by decide +kernel
 have e4:(2:Rat) ^ 160=4294967296*340282366920938463463374607431768211456:=by decide +kernel
 have e5:((1:Nat):Rat)=1:=by decide +kernel
 have e6:(((k:Nat):Int):Rat)=(k:Rat):=Rat.intCast_natCast k
 rw [e1,e2] at ar
 rw [e1,e2,e5] at br
 rw [e3,e4] at hn
 rw [e6]
 unfold nr at hn
 unfold dl
 constructor <;> grind
theorem mix {P x A1 A2 T F t B:Rat} (p:0<P) (a:nr x (P*A1+P*A2) F) (sn:-t<=A1+A2 - T/\A1+A2 - T<=t) (tl:P*t<=1) (hB:F+1<=B):nr x (P*T) B:=by
 have k2:=Rat.mul_le_mul_of_nonneg_left sn.1 (show 0<=P by grind)
 have k3:=Rat.mul_le_mul_of_nonneg_left sn.2 (show 0<=P by grind)
 unfold nr at *
 constructor <;> grind
theorem Rl {N:Nat} (hN:2 ^ 16=N) {η:Rat} (hη:0<=η) {EV CV SV EE MM KK HH xb xj ex b s c E:Nat} (hv:Vec η 16 EV CV SV) (hE:EV<=512) (hx:η*65536<=1 / 500) (hc:Cst N EE MM KK HH) (hxj:xj<65536) (hex:ex=2 ^ 127*2 ^ (164*xj))
  (hb:η*((b*65536:Nat):Rat)+η*65536<=8 / 5) (hs:iB (η*((b*65536:Nat):Rat)) s c E) (h:tst CV SV EE MM KK HH xb ex b s c E=true):bG η xb xj b:=by
 unfold tst at h
 simp only [vK,Bool.and_eq_true,Nat.ble_eq] at h
 obtain ⟨⟨h1,h2⟩,h3⟩:=h
 obtain ⟨g1,g2⟩:=Lr hs h1
 obtain ⟨fc,fs,eC,eS,hv⟩:=hv
 have n16:N=65536:=by rw [<- hN]
 rw [hN] at eC eS hv
 have hj:∀ j:Nat,j<N->0<=η*(j:Rat)/\η*(j:Rat)<=η*65536:=fun j hj=>by
  refine ⟨Rat.mul_nonneg hη (gq j),Rat.mul_le_mul_of_nonneg_left ?_ hη⟩
  have:(j:Rat)<=((65536:Nat):Rat):=by exact_mod_cast Nat.le_of_lt (n16 ▸ hj)
  have e:((65536:Nat):Rat)=65536:=by decide +kernel
  rw [e] at this; exact this
 have hv2:∀ j,j<N->2 ^ 80 - 2 ^ 74<=fc j/\fc j<=2 ^ 80+2 ^ 76/\fs j<=2 ^ 76:=fun j h=>JL (hj j h).1 (Rat.le_trans (hj j h).2 hx) (Nat.le_trans hE (by decide)) (hv j h).1 (hv j h).2
 generalize s >>> 80=sa at *
 generalize c >>> 80=ca at *
 have hX:sa*CV+ca*SV+VH b xb ex=ah 164 (fun i=>sa*fc i+ca*fs i+(if i=xj then (if b=xb then 2 ^ 127 else 0) else 0)) N:=by
  rw [eC,eS,jq,jq,kG]
  have:VH b xb ex=ah 164 (fun i=>if i=xj then (if b=xb then 2 ^ 127 else 0) else 0) N:=by
   rw [Cz,if_pos (show xj<N by omega)]
   unfold VH
   by_cases hb:b=xb
   .rw [if_pos hb,show Nat.beq b xb=true by rw [Nat.beq_eq]; exact hb]; exact hex
   .rw [if_neg hb,show Nat.beq b xb=false from Bool.eq_false_iff.2 (fun h=>hb (Nat.eq_of_beq_eq_true h))]; simp
  rw [this,kG]
 have hlt:∀ i,i<N->sa*fc i+ca*fs i<=2 ^ 163:=fun i hi=>by
  obtain ⟨a1,a2,a3⟩:=hv2 i hi
  have b1:=Nat.mul_le_mul_left sa (show fc i<=2 ^ 81 by omega)
  have b2:=Nat.mul_le_mul_left ca (show fs i<=2 ^ 81 by omega)
  have b3:=Nat.mul_le_mul_right (2 ^ 81) h2
  rw [Nat.add_mul] at b3
  have e:2 ^ 82*2 ^ 81=2 ^ 163:=by rw [<- Nat.pow_add]
  omega
 have key:=Y0 (w:=164) (n:=N) (v:=128) (e:=2 ^ 94) hX hc.e hc.m hc.k hc.h (fun i hi=>by
  have:=hlt i hi
  have e1:(if i=xj then (if b=xb then 2 ^ 127 else 0) else 0)<=2 ^ 127:=by split <;> (try split) <;> decide
  omega) (by decide) (by decide) h3
 intro j hj2 hne
 rw [<- n16] at hj2
 have kj:=key j hj2
 have z:(if j=xj then (if b=xb then 2 ^ 127 else 0) else 0)=0:=by
  by_cases h1:j=xj
  .rw [if_pos h1,if_neg (fun h=>hne ⟨h,h1⟩)]
  .rw [if_neg h1]
 obtain ⟨x,hxx⟩:∃ x,x=sa*fc j+ca*fs j+(if j=xj then (if b=xb then 2 ^ 127 else 0) else 0):=⟨_,rfl⟩
 rw [<- hxx] at kj
 rw [z,Nat.add_zero] at hxx
 have b0:0<=η*((b*65536:Nat):Rat):=Rat.mul_nonneg hη (gq _)
 obtain ⟨j0,j1⟩:=hj j hj2
 have e:η*((b*65536+j:Nat):Rat)=η*((b*65536:Nat):Rat)+η*(j:Rat):=by push_cast; grind
 unfold VG
 rw [e]
 refine Rk kj ?_
 rw [hxx]
 have sn:=(EA b0 j0 64)
 have a1:=Rf (wY g1 (hv j hj2).1 (gq _) (gq _)) (wY g2 (hv j hj2).2 (gq _) (gq _))
 have tl:=AJ (r:=160) (by decide) (show 0<=η*((b*65536:Nat):Rat)+η*(j:Rat) by grind) (by grind)
 obtain ⟨d1,d2,d3⟩:=hv2 j hj2
 clear e
 generalize η*((b*65536:Nat):Rat)=A at *
 have bnd:(sa*EV+2*(fc j+EV))+(ca*EV+2*(fs j+EV))+1<=2 ^ 92:=by
  have m1:=Nat.mul_le_mul h2 hE
  rw [Nat.add_mul] at m1
  omega
 have bndr:(((sa*EV+2*(fc j+EV))+(ca*EV+2*(fs j+EV))+1:Nat):Rat)<=((2 ^ 92:Nat):Rat):=by exact_mod_cast bnd
 have e1:((2:Nat):Rat)=2:=by decide +kernel
 have e2:((1:Nat):Rat)=1:=by decide +kernel
 simp only [Rat.natCast_add,Rat.natCast_mul] at bndr
 rw [e1] at a1
 simp only [Rat.natCast_add,Rat.natCast_mul]
 rw [e1,e2] at bndr
 have e4:∀ x y:Rat,(2:Rat) ^ 80*x*((2:Rat) ^ 80*y)=(2:Rat) ^ 160*(x*y):=fun x y=>by
  rw [show (2:Rat) ^ 160=(2:Rat) ^ 80*(2:Rat) ^ 80 by decide +kernel]; grind
 rw [e4,e4] at a1
 exact mix (pw_pos 160) a1 sn tl bndr
theorem run_ok {N:Nat} (hN:2 ^ 16=N) {η:Rat} (hη:0<=η) {EV CV SV sL cL EL EE MM KK HH xb xj ex:Nat} (hv:Vec η 16 EV CV SV) (hE:EV<=512) (hx:η*65536<=1 / 500) (hc:Cst N EE MM KK HH) (hxj:xj<65536) (hex:ex=2 ^ 127*2 ^ (164*xj)) (hL:iB (η*((2 ^ 16:Nat):Rat)) sL cL EL) (fin:Nat->Nat->Nat->Nat->Bool):
  ∀ (n b s c E:Nat),η*(((b+n)*65536:Nat):Rat)<=8 / 5->iB (η*((b*65536:Nat):Rat)) s c E->run CV SV sL cL EL EE MM KK HH xb ex fin n b s c E=true ->
  (∀ i,i<n->bG η xb xj (b+i))/\∃ s' c' E',iB (η*(((b+n)*65536:Nat):Rat)) s' c' E'/\fin (b+n) s' c' E'=true:=by
 intro n
 induction n with
 | zero=>
  intro b s c E _ hs h
  exact ⟨fun i hi=>absurd hi (Nat.not_lt_zero i),s,c,E,hs,h⟩
 | succ n ih=>
  intro b s c E hb hs h
  rw [run] at h
  simp only [vK,Bool.and_eq_true,Nat.ble_eq] at h
  obtain ⟨⟨h1,h2⟩,h3⟩:=h
  have e16:((2 ^ 16:Nat):Rat)=65536:=by decide +kernel
  have m:η*(((b+1)*65536:Nat):Rat)<=η*(((b+(n+1))*65536:Nat):Rat):=Rat.mul_le_mul_of_nonneg_left (by exact_mod_cast Nat.mul_le_mul_right 65536 (by omega)) hη
  have e:η*(((b+1)*65536:Nat):Rat)=η*((b*65536:Nat):Rat)+η*65536:=by
   rw [Nat.add_mul,Rat.natCast_add,show ((1*65536:Nat):Rat)=65536 by decide +kernel]; grind
  have b0:0<=η*((b*65536:Nat):Rat):=Rat.mul_nonneg hη (gq _)
  have t:=Rl hN hη hv hE hx hc hxj hex (by rw [<- e]; grind) hs h1
  have hL2:=hL
  rw [e16] at hL2
  have s2:=H9 b0 (show 0<=η*65536 by grind) (by rw [<- e]; grind) hs hL2 h2
  rw [<- e] at s2
  have ih:=ih (b+1) _ _ _ (by rw [show b+1+n=b+(n+1) by omega]; exact hb) s2 h3
  rw [show b+1+n=b+(n+1) by omega] at ih
  refine ⟨fun i hi=>?_,ih.2⟩
  cases i with
  | zero=>exact t
  | succ i=>
   have:=ih.1 i (by omega)
   rw [show b+1+i=b+(i+1) by omega] at this
   exact this
def rQ (s0 c0 E0 xb xj n b s c E:Nat) (last:Bool) (s1 c1 E1:Nat):Bool:=
 build 16 0 (2 ^ 80) 0 0 s0 c0 E0 fun CV SV EV sL cL EL=>
  Nat.ble EV 512&&fU (vJ 164 16) fun ON=>fU (2 ^ 94*ON) fun EE=>fU ((2 ^ 128 - 1)*ON) fun MM=>fU ((2 ^ 128 - 2*2 ^ 94)*ON) fun KK=>fU (2 ^ 128*ON) fun HH=>fU (2 ^ 127*2 ^ (164*xj)) fun ex=>
  run CV SV sL cL EL EE MM KK HH xb ex (fun b s c E=>match last with|true=>tst CV SV EE MM KK HH xb ex b s c E|false=>Nat.beq s s1&&Nat.beq c c1&&Nat.beq E E1) n b s c E
theorem jJ {η:Rat} (hη:0<=η) (hx:η*65536<=1 / 500) {s0 c0 E0 xb xj n b s c E s1 c1 E1:Nat} {last:Bool} (h0:iB η s0 c0 E0) (hxj:xj<65536) (hb:η*(((b+n)*65536:Nat):Rat)+η*65536<=8 / 5)
  (hs:iB (η*((b*65536:Nat):Rat)) s c E) (h:rQ s0 c0 E0 xb xj n b s c E last s1 c1 E1=true):
  (∀ i,i<n->bG η xb xj (b+i))/\(last=true->bG η xb xj (b+n))/\(last=false->iB (η*(((b+n)*65536:Nat):Rat)) s1 c1 E1):=by
 unfold rQ at h
 have e1:η*((2 ^ 0:Nat):Rat)=η:=by
  rw [show ((2 ^ 0:Nat):Rat)=1 by decide +kernel]; grind
 have e2:η*((2 ^ (0+16):Nat):Rat)=η*65536:=by
  rw [show ((2 ^ (0+16):Nat):Rat)=65536 by decide +kernel]
 obtain ⟨CV,SV,EV,sL,cL,EL,hv,hL,h⟩:=build_ok hη 16 0 _ _ _ _ _ _ _ aaL (by rw [e1]; exact h0) (by rw [e2]; exact hx) h
 rw [show 0+16=16 from rfl] at hv hL
 simp only [vK,Bool.and_eq_true,Nat.ble_eq] at h
 obtain ⟨hE,h⟩:=h
 obtain ⟨N,hN⟩:∃ N,2 ^ 16=N:=⟨_,rfl⟩
 have hc:Cst N (2 ^ 94*vJ 164 16) ((2 ^ 128 - 1)*vJ 164 16) ((2 ^ 128 - 2*2 ^ 94)*vJ 164 16) (2 ^ 128*vJ 164 16):=by
  rw [yC,hN]
  constructor <;> exact (qm _ _ _).symm
 obtain ⟨r1,s',c',E',r2,r3⟩:=run_ok hN hη hv hE hx hc hxj rfl hL _ n b s c E (by grind) hs h
 refine ⟨r1,fun hl=>?_,fun hl=>?_⟩
 .subst hl
  exact Rl hN hη hv hE hx hc hxj rfl hb r2 r3
 .subst hl
  simp only [Bool.and_eq_true] at r3
  obtain ⟨⟨a,b⟩,c⟩:=r3
  rw [<- Nat.eq_of_beq_eq_true a,<- Nat.eq_of_beq_eq_true b,<- Nat.eq_of_beq_eq_true c]
  exact r2
def eO:Rat:=hp / 90000000
def EF:Nat:=25508015594712326045995713164063788870687
def EG:Nat:=1461501637330902695604255943821487705123777369966
theorem Ia:iB eO EF EG 2:=⟨⟨by decide +kernel,by decide +kernel⟩,⟨by decide +kernel,by decide +kernel⟩⟩
theorem rC:0<=eO/\eO*65536<=1 / 500:=by decide +kernel
end Go.Ln
