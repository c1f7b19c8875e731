/- What is proved: a law of conics returns true, whatever the input (part 11). No conditions beyond those of the row. -/
import Derived.Test.YtkbndjnibcjchaaGreatDoorPJ
import Derived.KernelRfl
set_option linter.unusedVariables false
set_option linter.unusedSimpArgs false
set_option linter.unusedSectionVars false
namespace Go.Dg
open Go Go.Eng
theorem tdiv_gcd {n g:Int} (hd:g ∣ n):n.tdiv g=n / g:=Int.tdiv_eq_ediv_of_dvd hd
theorem lo_q {n d:Int} (h:0<d):n.tdiv ((Int.gcd n d:Nat):Int)=(Rat.divInt n d).num/\d.tdiv ((Int.gcd n d:Nat):Int)=((Rat.divInt n d).den:Int):=by
 rw [tdiv_gcd (Int.gcd_dvd_left n d),tdiv_gcd (Int.gcd_dvd_right n d),Rat.num_divInt,Rat.den_divInt,if_neg (by omega),Int.gcd_comm d n,Int.sign_eq_one_of_pos h,Int.one_mul]
 refine ⟨rfl,?_⟩
 rw [Int.natCast_ediv]
 congr 1
 omega
def qT (x:Rat):To:=.st [.bo (decide (x.num<0)),.li false (digs x.num.natAbs),.bo (decide ((x.den:Int)<0)),.li false (digs (x.den:Int).natAbs)]
def qIn (p q:Bool) (n d:List Int):Rat:=Rat.divInt (zv p n) (zv q d)
structure OkQ (p q:Bool) (n d:List Int):Prop where
 hn:okL p n
 hd:okL q d
 hq:q=false
 ne:d≠[]
 ln:n.length<=600
 ld:d.length<=600
 cop:Int.gcd (zv p n) (zv q d)=1
theorem OkQ.pos {p q:Bool} {n d:List Int} (h:OkQ p q n d):0<zv q d:=by
 have h1:=val_nonneg h.hd.1
 have h2:=val_ne h.hd.1 h.hd.2.1 h.ne
 rw [h.hq]
 show 0<val d
 omega
theorem OkQ.parts {p q:Bool} {n d:List Int} (h:OkQ p q n d):(qIn p q n d).num=zv p n/\((qIn p q n d).den:Int)=zv q d:=by
 obtain ⟨h1,h2⟩:=lo_q (n:=zv p n) h.pos
 rw [h.cop] at h1 h2
 exact ⟨by rw [show qIn p q n d=Rat.divInt (zv p n) (zv q d) from rfl,<- h1]; exact Int.tdiv_one _,by rw [show qIn p q n d=Rat.divInt (zv p n) (zv q d) from rfl,<- h2]; exact Int.tdiv_one _⟩
def SzQ (x:Rat):Prop:=(x.num.natAbs:Int)<pw 600/\(x.den:Int)<pw 600
theorem den_neg (x:Rat):decide ((x.den:Int)<0)=false:=decide_eq_false (by omega)
theorem qIn_q (x:Rat):qIn (decide (x.num<0)) (decide ((x.den:Int)<0)) (digs x.num.natAbs) (digs (x.den:Int).natAbs)=x:=by
 unfold qIn
 rw [zv_digs,zv_digs]
 exact Rat.num_divInt_den x
theorem pw6:pw 600<=pw 500000:=pw_mono (by decide)
theorem okQ_q {x:Rat} (h:SzQ x):OkQ (decide (x.num<0)) (decide ((x.den:Int)<0)) (digs x.num.natAbs) (digs (x.den:Int).natAbs):=by
 have h6:=pw6
 have h1:=h.1
 have h2:=h.2
 have hden:=x.den_nz
 refine ⟨okL_digs (by omega),okL_digs (by omega),den_neg x,fun e=>?_,len_digs (by omega),len_digs (by omega),?_⟩
 .have:=digs_nil.1 e; omega
 .rw [zv_digs,zv_digs]
  exact x.reduced
theorem len_abs {p:Bool} {n:List Int} (h:okL p n):((zv p n).natAbs:Int)<pw n.length:=by
 have:=val_lt h.1
 have:=val_nonneg h.1
 cases p <;> simp only [zv,cond_true,cond_false] <;> omega
theorem mul_len {x y:Int} {k l:Nat} (hx:(x.natAbs:Int)<pw k) (hy:(y.natAbs:Int)<pw l):((x*y).natAbs:Int)<pw (k+l):=by
 rw [Int.natAbs_mul,pw_add,Int.natCast_mul]
 have h0:(0:Int)<=x.natAbs:=by omega
 have h1:(0:Int)<=y.natAbs:=by omega
 have h2:=pw_pos k
 calc (x.natAbs:Int)*y.natAbs<=x.natAbs*pw l:=Int.mul_le_mul_of_nonneg_left (by omega) h0
  _<pw k*pw l:=Int.mul_lt_mul_of_pos_right hx (pw_pos l)
theorem add_eq {a b c d:Int} (hb:b≠0) (hd:d≠0):Rat.divInt (a*d+c*b) (b*d)=Rat.divInt a b+Rat.divInt c d:=(Rat.divInt_add_divInt a c hb hd).symm
theorem mul_eq (a b c d:Int):Rat.divInt (a*c) (b*d)=Rat.divInt a b*Rat.divInt c d:=(Rat.divInt_mul_divInt a c).symm
end Go.Dg
namespace Go.Dg
theorem pw_succ (n:Nat):pw (n+1)=1000000000*pw n:=rfl
theorem pw_two (n:Nat):pw n+pw n<pw (n+1):=by
 rw [pw_succ]
 have:=pw_pos n
 omega
end Go.Dg
namespace Go.Dg
theorem sum_len {x y:Int} {k m l:Nat} (hx:(x.natAbs:Int)<pw k) (hy:(y.natAbs:Int)<pw k) (hm:k+1<=m) (hl:k+1<=l) (hl2:l<=500000):
  val (digs x.natAbs)+val (digs y.natAbs)<pw m/\okL (decide (x+y<0)) (digs (x+y).natAbs)/\(digs (x+y).natAbs).length<=l:=by
 have h1:=pw_two k
 have h2:=pw_mono hm
 have h3:=pw_mono hl
 have h4:=pw_mono hl2
 rw [val_digs,val_digs]
 refine ⟨by omega,okL_digs ?_,len_digs (by omega)⟩
 generalize pw 500000=W at *
 omega
end Go.Dg
namespace Go.Proofs.YtkbndjnibcjchaaGreatDoor.K
open Go Go.Eng Go.Dg
noncomputable section
def psL2:List Ma:=[.st [.nu .b,.li],.st [.nu .b,.li]]
def loV:List Nu->List (List Int)->Option (Prop×To)
 | [.t p,.t q],[n,d]=>some (okL p n/\okL q d/\d≠[]/\n.length<=150000/\d.length<=150000,qT (Rat.divInt (zv p n) (zv q d)))
 | _,_=>none
theorem gcd_ok {x y:Int} {k:Nat} (hy:y≠0) (h:(y.natAbs:Int)<pw k) (hk:k<=200000):okL (decide (((Int.gcd x y:Nat):Int)<0)) (digs ((Int.gcd x y:Nat):Int).natAbs)/\digs ((Int.gcd x y:Nat):Int).natAbs≠[]/\(digs ((Int.gcd x y:Nat):Int).natAbs).length<=k:=by
 have h1:Int.gcd x y<=y.natAbs:=Nat.le_of_dvd (by omega) (Nat.gcd_dvd_right x.natAbs y.natAbs)
 have h2:Int.gcd x y≠0:=fun e=>hy (Int.gcd_eq_zero_iff.1 e).2
 have h3:=pw_mono (show k<=500000 by omega)
 have e:((Int.gcd x y:Nat):Int).natAbs=Int.gcd x y:=by omega
 refine ⟨okL_digs (by omega),fun e2=>?_,len_digs (by omega)⟩
 have:=digs_nil.1 e2
 omega
theorem lowest_ok:NOk Tryz.prog (fun _=>none) hG0 86 (mSpec hG0 .i64 psL2 loV):=by
 refine msp_runs (fun xs ys p t e h=>?_) ⟨_,Tryz.func86,rfl⟩
 unfold loV at e
 split at e
 .rename_i p q n d
  cases e
  obtain ⟨hn,hd,ne,ln,ld⟩:=h
  have hz:zv q d≠0:=fun e=>ne (hd.nil.2 e)
  have an:=len_abs hn
  have ad:=len_abs hd
  obtain ⟨g1,g2,g3⟩:=gcd_ok (x:=zv p n) hz ad (by omega)
  have gp:Int.gcd (zv p n) (zv q d)≠0:=fun e=>hz (Int.gcd_eq_zero_iff.1 e).2
  cases q with
  | false=>
   have hpos:0<zv false d:=by
    have:=val_nonneg hd.1
    have:=val_ne hd.1 hd.2.1 ne
    show 0<val d
    omega
   obtain ⟨l1,l2⟩:=lo_q (n:=zv p n) hpos
   refine ⟨cLo false,300,suArgs p false n d,_,_,_,_,_,cLo_ok false,rfl,rfl,⟨⟨rfl,rfl,trivial⟩,⟨rfl,rfl,trivial⟩,trivial⟩,lo_p p false n d,rfl,⟨rfl,⟨⟨rfl,rfl⟩,hn,hd,by omega,by omega⟩,⟨⟨rfl,rfl⟩,hn,g1,g2,by omega⟩,⟨rfl,rfl⟩,hd,g1,g2,by omega⟩,rfl,rfl,⟨?_,⟨?_,?_⟩,?_,?_,?_⟩⟩
   .show decide ((zv p n).tdiv (zv _ _)<0)=decide ((Rat.divInt (zv p n) (zv false d)).num<0)
    rw [zv_digs,l1]
   .rfl
   .show digs ((zv p n).tdiv (zv _ _)).natAbs=digs (Rat.divInt (zv p n) (zv false d)).num.natAbs
    rw [zv_digs,l1]
   .show decide ((zv false d).tdiv (zv _ _)<0)=decide (((Rat.divInt (zv p n) (zv false d)).den:Int)<0)
    rw [zv_digs,l2]
   .rfl
   .show digs ((zv false d).tdiv (zv _ _)).natAbs=digs ((Rat.divInt (zv p n) (zv false d)).den:Int).natAbs
    rw [zv_digs,l2]
  | true=>
   have hpos:0 < -zv true d:=by
    have:=hd.val_pos rfl
    show 0 < - -val d
    omega
   have h5:=pw_mono (show n.length<=500000 by omega)
   have h6:=pw_mono (show d.length<=500000 by omega)
   have en:(-zv p n).natAbs=(zv p n).natAbs:=Int.natAbs_neg _
   have ed:(-zv true d).natAbs=(zv true d).natAbs:=Int.natAbs_neg _
   have on:okL (decide (-zv p n<0)) (digs (-zv p n).natAbs):=okL_digs (by omega)
   have od:okL (decide (-zv true d<0)) (digs (-zv true d).natAbs):=okL_digs (by omega)
   have lnn:(digs (-zv p n).natAbs).length<=n.length:=len_digs (by omega)
   have ldd:(digs (-zv true d).natAbs).length<=d.length:=len_digs (by omega)
   obtain ⟨g1,g2,g3⟩:=gcd_ok (x:=-zv p n) (y:=-zv true d) (k:=d.length) (by omega) (by omega) (by omega)
   obtain ⟨l1,l2⟩:=lo_q (n:=-zv p n) hpos
   rw [Rat.neg_divInt_neg] at l1 l2
   refine ⟨cLo true,300,suArgs p true n d,_,_,_,_,_,cLo_ok true,rfl,rfl,⟨⟨rfl,rfl,trivial⟩,⟨rfl,rfl,trivial⟩,trivial⟩,lo_n p true n d,rfl,⟨⟨rfl,⟨rfl,hn⟩,⟨rfl,rfl⟩,rfl,hd⟩,⟨⟨rfl,rfl⟩,on,od,by omega,by omega⟩,⟨⟨rfl,rfl⟩,on,by rw [zv_digs,zv_digs]; exact g1,by rw [zv_digs,zv_digs]; exact g2,by rw [zv_digs,zv_digs]; omega⟩,⟨rfl,rfl⟩,od,by rw [zv_digs,zv_digs]; exact g1,by rw [zv_digs,zv_digs]; exact g2,by rw [zv_digs,zv_digs]; omega⟩,rfl,rfl,⟨?_,⟨?_,?_⟩,?_,?_,?_⟩⟩
   .show decide ((zv _ _).tdiv (zv _ _)<0)=decide ((Rat.divInt (zv p n) (zv true d)).num<0)
    rw [zv_digs,zv_digs,zv_digs,l1]
   .rfl
   .show digs ((zv _ _).tdiv (zv _ _)).natAbs=digs (Rat.divInt (zv p n) (zv true d)).num.natAbs
    rw [zv_digs,zv_digs,zv_digs,l1]
   .show decide ((zv _ _).tdiv (zv _ _)<0)=decide (((Rat.divInt (zv p n) (zv true d)).den:Int)<0)
    rw [zv_digs,zv_digs,zv_digs,l2]
   .rfl
   .show digs ((zv _ _).tdiv (zv _ _)).natAbs=digs ((Rat.divInt (zv p n) (zv true d)).den:Int).natAbs
    rw [zv_digs,zv_digs,zv_digs,l2]
 .cases e
def psQ:List Ma:=[.st [.nu .b,.li,.nu .b,.li]]
def psQ2:List Ma:=[.st [.nu .b,.li,.nu .b,.li],.st [.nu .b,.li,.nu .b,.li]]
def rqV:List Nu->List (List Int)->Option (Prop×To)
 | [.t p,.t q],[n,d]=>some (OkQ p q n d,.pb true)
 | _,_=>none
theorem rightq_ok:NOk Tryz.prog (fun _=>none) hG0 54 (mSpec hG0 .i64 psQ rqV):=by
 refine msp_runs (fun xs ys p t e h=>?_) ⟨_,Tryz.func54,rfl⟩
 unfold rqV at e
 split at e
 .rename_i p q n d
  cases e
  have hpos:=List.length_pos_iff.2 h.ne
  have e1:Sm (digs ((Int.gcd (zv p n) (zv q d):Nat):Int).natAbs)/\Sm (digs (Int.natAbs 1)):=by
   rw [h.cop]
   have:(digs 1).length<=1:=len_digs (by decide)
   exact ⟨by show (digs 1).length<=500000; omega,by show (digs 1).length<=500000; omega⟩
  refine ⟨cRq,300,rqArgs p q n d,_,_,_,_,_,cRq_ok,rfl,rfl,⟨⟨rfl,rfl,rfl,rfl,trivial⟩,trivial⟩,rq_t p q n d,rfl,⟨⟨rfl,h.hn,h.ln⟩,⟨rfl,h.hd,h.ld⟩,by rw [h.hq]; rfl,decide_eq_true (by omega),⟨⟨rfl,rfl⟩,h.hn,h.hd,by have:=h.ln; omega,by have:=h.ld; omega⟩,by decide,⟨⟨rfl,rfl⟩,e1⟩,?_⟩,rfl,rfl,rfl⟩
  rw [h.cop]
  exact decide_eq_true ⟨by decide,rfl⟩
 .cases e
def tQ2:List (FuncId×NSpec):=(86,mSpec hG0 .i64 psL2 loV) :: (54,mSpec hG0 .i64 psQ rqV) :: tQ1
theorem tQ2_ok:∀ x∈tQ2,NOk Tryz.prog (fun _=>none) hG0 x.1 x.2:=by
 intro x hx
 rcases List.mem_cons.1 hx with rfl|hx
 .exact lowest_ok
 rcases List.mem_cons.1 hx with rfl|hx
 .exact rightq_ok
 exact tQ1_ok x hx
def cQ2:Ctx:=mkN Tryz.prog (fun _=>none) hG0 tQ2 [] noExt
theorem cQ2_ok:CtxOk cQ2:=mkN_ok prog_ok (noExt_ok _) tQ2_ok (fun x h=>by cases h)
def tQ3:List (FuncId×NSpec):=[(86,mSpec hG0 .i64 psL2 loV),(88,mSpec hG0 .i64 psL2 prdV)]
theorem tQ3_ok:∀ x∈tQ3,NOk Tryz.prog (fun _=>none) hG0 x.1 x.2:=by
 intro x hx
 simp only [tQ3,List.mem_cons,List.not_mem_nil,or_false] at hx
 rcases hx with rfl|rfl
 .exact lowest_ok
 .exact prod_ok
def cQz (l:List (Nat×AV)):Ctx:=hinting (mkN Tryz.prog (fun _=>none) hG0 tQ3 [] noExt) (hintsT l)
theorem cQz_ok (l:List (Nat×AV)):CtxOk (cQz l):=hinting_ok (mkN_ok prog_ok (noExt_ok _) tQ3_ok (fun x h=>by cases h)) _
def sqArgs (p q r s:Bool) (n d m e:List Int):List AV:=[.agg [.bool true p,.lslice 0 n.length,.bool true q,.lslice 1 d.length],.agg [.bool true r,.lslice 2 m.length,.bool true s,.lslice 3 e.length]]
def sqH (n d m e:List Int):Hp:=viewsH true hG0 [(.i64,n),(.i64,d),(.i64,m),(.i64,e)]
end
end Go.Proofs.YtkbndjnibcjchaaGreatDoor.K
namespace Go.Proofs.YtkbndjnibcjchaaGreatDoor.K
open Go Go.Eng Go.Dg
noncomputable section
def qs_n_nd (p q r s:Bool) (n d m e:List Int):Prop:=((((↑n.length:Int)=(↑n.length:Int)/\(↑e.length:Int)=(↑e.length:Int))/\okL p n/\okL s e/\n.length+e.length<=(500000:Nat))/\((s=s/\(↑e.length:Int)=(↑e.length:Int))/\(q=q/\(↑d.length:Int)=(↑d.length:Int))/\(q=q/\(↑d.length:Int)=(↑d.length:Int))/\r=r/\(↑m.length:Int)=(↑m.length:Int))/\(((↑m.length:Int)=(↑m.length:Int)/\(↑d.length:Int)=(↑d.length:Int))/\okL r m/\okL q d/\m.length+d.length<=(500000:Nat))/\((s=s/\(↑e.length:Int)=(↑e.length:Int))/\q=q/\(↑d.length:Int)=(↑d.length:Int))/\(((↑(digs (zv p n*zv s e).natAbs).length:Int)=(↑(digs (zv p n*zv s e).natAbs).length:Int)/\(↑(digs (zv r m*zv q d).natAbs).length:Int)=(↑(digs (zv r m*zv q d).natAbs).length:Int))/\okL (decide (zv p n*zv s e<(0:Int))) (digs (zv p n*zv s e).natAbs)/\okL (decide (zv r m*zv q d<(0:Int))) (digs (zv r m*zv q d).natAbs)/\digs (zv p n*zv s e).natAbs≠[]/\digs (zv r m*zv q d).natAbs≠[]/\val (digs (zv p n*zv s e).natAbs)+val (digs (zv r m*zv q d).natAbs)<pw (400000:Nat))/\((s=s/\(↑e.length:Int)=(↑e.length:Int))/\q=q/\(↑d.length:Int)=(↑d.length:Int))/\(((↑d.length:Int)=(↑d.length:Int)/\(↑e.length:Int)=(↑e.length:Int))/\okL q d/\okL s e/\d.length+e.length<=(500000:Nat))/\((↑(digs (zv (decide (zv p n*zv s e<(0:Int))) (digs (zv p n*zv s e).natAbs)+zv (decide (zv r m*zv q d<(0:Int))) (digs (zv r m*zv q d).natAbs)).natAbs).length:Int)=(↑(digs (zv (decide (zv p n*zv s e<(0:Int))) (digs (zv p n*zv s e).natAbs)+zv (decide (zv r m*zv q d<(0:Int))) (digs (zv r m*zv q d).natAbs)).natAbs).length:Int)/\(↑(digs (zv q d*zv s e).natAbs).length:Int)=(↑(digs (zv q d*zv s e).natAbs).length:Int))/\okL (decide (zv (decide (zv p n*zv s e<(0:Int))) (digs (zv p n*zv s e).natAbs)+zv (decide (zv r m*zv q d<(0:Int))) (digs (zv r m*zv q d).natAbs)<(0:Int))) (digs (zv (decide (zv p n*zv s e<(0:Int))) (digs (zv p n*zv s e).natAbs)+zv (decide (zv r m*zv q d<(0:Int))) (digs (zv r m*zv q d).natAbs)).natAbs)/\okL (decide (zv q d*zv s e<(0:Int))) (digs (zv q d*zv s e).natAbs)/\digs (zv q d*zv s e).natAbs≠[]/\(digs (zv (decide (zv p n*zv s e<(0:Int))) (digs (zv p n*zv s e).natAbs)+zv (decide (zv r m*zv q d<(0:Int))) (digs (zv r m*zv q d).natAbs)).natAbs).length<=(150000:Nat)/\(digs (zv q d*zv s e).natAbs).length<=(150000:Nat))
def qs_n_v (p q r s:Bool) (n d m e:List Int):AV:=(AV.agg [AV.bool true (decide ((Rat.divInt (zv (decide (zv (decide (zv p n*zv s e<(0:Int))) (digs (zv p n*zv s e).natAbs)+zv (decide (zv r m*zv q d<(0:Int))) (digs (zv r m*zv q d).natAbs)<(0:Int))) (digs (zv (decide (zv p n*zv s e<(0:Int))) (digs (zv p n*zv s e).natAbs)+zv (decide (zv r m*zv q d<(0:Int))) (digs (zv r m*zv q d).natAbs)).natAbs)) (zv (decide (zv q d*zv s e<(0:Int))) (digs (zv q d*zv s e).natAbs))).num<(0:Int))),AV.lslice 4 (↑(digs (Rat.divInt (zv (decide (zv (decide (zv p n*zv s e<(0:Int))) (digs (zv p n*zv s e).natAbs)+zv (decide (zv r m*zv q d<(0:Int))) (digs (zv r m*zv q d).natAbs)<(0:Int))) (digs (zv (decide (zv p n*zv s e<(0:Int))) (digs (zv p n*zv s e).natAbs)+zv (decide (zv r m*zv q d<(0:Int))) (digs (zv r m*zv q d).natAbs)).natAbs)) (zv (decide (zv q d*zv s e<(0:Int))) (digs (zv q d*zv s e).natAbs))).num.natAbs).length:Int),AV.bool true (decide ((↑(Rat.divInt (zv (decide (zv (decide (zv p n*zv s e<(0:Int))) (digs (zv p n*zv s e).natAbs)+zv (decide (zv r m*zv q d<(0:Int))) (digs (zv r m*zv q d).natAbs)<(0:Int))) (digs (zv (decide (zv p n*zv s e<(0:Int))) (digs (zv p n*zv s e).natAbs)+zv (decide (zv r m*zv q d<(0:Int))) (digs (zv r m*zv q d).natAbs)).natAbs)) (zv (decide (zv q d*zv s e<(0:Int))) (digs (zv q d*zv s e).natAbs))).den:Int)<(0:Int))),AV.lslice 5 (↑(digs (↑(Rat.divInt (zv (decide (zv (decide (zv p n*zv s e<(0:Int))) (digs (zv p n*zv s e).natAbs)+zv (decide (zv r m*zv q d<(0:Int))) (digs (zv r m*zv q d).natAbs)<(0:Int))) (digs (zv (decide (zv p n*zv s e<(0:Int))) (digs (zv p n*zv s e).natAbs)+zv (decide (zv r m*zv q d<(0:Int))) (digs (zv r m*zv q d).natAbs)).natAbs)) (zv (decide (zv q d*zv s e<(0:Int))) (digs (zv q d*zv s e).natAbs))).den:Int).natAbs).length:Int)])
def qs_n_h (p q r s:Bool) (n d m e:List Int):Hp:=⟨[{ wr:=22,body:=ABody.rows IntKind.i64 (digs (↑(Rat.divInt (zv (decide (zv (decide (zv p n*zv s e<(0:Int))) (digs (zv p n*zv s e).natAbs)+zv (decide (zv r m*zv q d<(0:Int))) (digs (zv r m*zv q d).natAbs)<(0:Int))) (digs (zv (decide (zv p n*zv s e<(0:Int))) (digs (zv p n*zv s e).natAbs)+zv (decide (zv r m*zv q d<(0:Int))) (digs (zv r m*zv q d).natAbs)).natAbs)) (zv (decide (zv q d*zv s e<(0:Int))) (digs (zv q d*zv s e).natAbs))).den:Int).natAbs) },{ wr:=22,body:=ABody.rows IntKind.i64 (digs (Rat.divInt (zv (decide (zv (decide (zv p n*zv s e<(0:Int))) (digs (zv p n*zv s e).natAbs)+zv (decide (zv r m*zv q d<(0:Int))) (digs (zv r m*zv q d).natAbs)<(0:Int))) (digs (zv (decide (zv p n*zv s e<(0:Int))) (digs (zv p n*zv s e).natAbs)+zv (decide (zv r m*zv q d<(0:Int))) (digs (zv r m*zv q d).natAbs)).natAbs)) (zv (decide (zv q d*zv s e<(0:Int))) (digs (zv q d*zv s e).natAbs))).num.natAbs) },{ wr:=(0:Nat),body:=ABody.rows IntKind.i64 e },{ wr:=(0:Nat),body:=ABody.rows IntKind.i64 m },{ wr:=(0:Nat),body:=ABody.rows IntKind.i64 d },{ wr:=(0:Nat),body:=ABody.rows IntKind.i64 n }],6,23⟩
theorem qs_n (p q r s:Bool) (n d m e:List Int):(run cQ2 300).call 58 (sqArgs p q r s n d m e) (sqH n d m e)=some ⟨.p (qs_n_nd p q r s n d m e),[⟨.tt,qs_n_v p q r s n d m e,qs_n_h p q r s n d m e⟩]⟩:=by kernel_rfl
def qs_a_nd (p q r s:Bool) (n d m e:List Int):Prop:=((((↑n.length:Int)=(↑n.length:Int)/\(↑e.length:Int)=(↑e.length:Int))/\okL p n/\okL s e/\n.length+e.length<=(500000:Nat))/\((s=s/\(↑e.length:Int)=(↑e.length:Int))/\(q=q/\(↑d.length:Int)=(↑d.length:Int))/\(q=q/\(↑d.length:Int)=(↑d.length:Int))/\r=r/\(↑m.length:Int)=(↑m.length:Int))/\(((↑m.length:Int)=(↑m.length:Int)/\(↑d.length:Int)=(↑d.length:Int))/\okL r m/\okL q d/\m.length+d.length<=(500000:Nat))/\((s=s/\(↑e.length:Int)=(↑e.length:Int))/\q=q/\(↑d.length:Int)=(↑d.length:Int))/\((↑(digs (zv p n*zv s e).natAbs).length:Int)==(0:Int))=true/\((s=s/\(↑e.length:Int)=(↑e.length:Int))/\q=q/\(↑d.length:Int)=(↑d.length:Int))/\(((↑d.length:Int)=(↑d.length:Int)/\(↑e.length:Int)=(↑e.length:Int))/\okL q d/\okL s e/\d.length+e.length<=(500000:Nat))/\((↑(digs (zv r m*zv q d).natAbs).length:Int)=(↑(digs (zv r m*zv q d).natAbs).length:Int)/\(↑(digs (zv q d*zv s e).natAbs).length:Int)=(↑(digs (zv q d*zv s e).natAbs).length:Int))/\okL (decide (zv r m*zv q d<(0:Int))) (digs (zv r m*zv q d).natAbs)/\okL (decide (zv q d*zv s e<(0:Int))) (digs (zv q d*zv s e).natAbs)/\digs (zv q d*zv s e).natAbs≠[]/\(digs (zv r m*zv q d).natAbs).length<=(150000:Nat)/\(digs (zv q d*zv s e).natAbs).length<=(150000:Nat))
def qs_a_v (p q r s:Bool) (n d m e:List Int):AV:=(AV.agg [AV.bool true (decide ((Rat.divInt (zv (decide (zv r m*zv q d<(0:Int))) (digs (zv r m*zv q d).natAbs)) (zv (decide (zv q d*zv s e<(0:Int))) (digs (zv q d*zv s e).natAbs))).num<(0:Int))),AV.lslice 4 (↑(digs (Rat.divInt (zv (decide (zv r m*zv q d<(0:Int))) (digs (zv r m*zv q d).natAbs)) (zv (decide (zv q d*zv s e<(0:Int))) (digs (zv q d*zv s e).natAbs))).num.natAbs).length:Int),AV.bool true (decide ((↑(Rat.divInt (zv (decide (zv r m*zv q d<(0:Int))) (digs (zv r m*zv q d).natAbs)) (zv (decide (zv q d*zv s e<(0:Int))) (digs (zv q d*zv s e).natAbs))).den:Int)<(0:Int))),AV.lslice 5 (↑(digs (↑(Rat.divInt (zv (decide (zv r m*zv q d<(0:Int))) (digs (zv r m*zv q d).natAbs)) (zv (decide (zv q d*zv s e<(0:Int))) (digs (zv q d*zv s e).natAbs))).den:Int).natAbs).length:Int)])
def qs_a_h (p q r s:Bool) (n d m e:List Int):Hp:=⟨[{ wr:=32,body:=ABody.rows IntKind.i64 (digs (↑(Rat.divInt (zv (decide (zv r m*zv q d<(0:Int))) (digs (zv r m*zv q d).natAbs)) (zv (decide (zv q d*zv s e<(0:Int))) (digs (zv q d*zv s e).natAbs))).den:Int).natAbs) },{ wr:=32,body:=ABody.rows IntKind.i64 (digs (Rat.divInt (zv (decide (zv r m*zv q d<(0:Int))) (digs (zv r m*zv q d).natAbs)) (zv (decide (zv q d*zv s e<(0:Int))) (digs (zv q d*zv s e).natAbs))).num.natAbs) },{ wr:=(0:Nat),body:=ABody.rows IntKind.i64 e },{ wr:=(0:Nat),body:=ABody.rows IntKind.i64 m },{ wr:=(0:Nat),body:=ABody.rows IntKind.i64 d },{ wr:=(0:Nat),body:=ABody.rows IntKind.i64 n }],6,33⟩
theorem qs_a (p q r s:Bool) (n d m e:List Int):(run (cQz [(12,.bool false true)]) 300).call 58 (sqArgs p q r s n d m e) (sqH n d m e)=some ⟨.p (qs_a_nd p q r s n d m e),[⟨.tt,qs_a_v p q r s n d m e,qs_a_h p q r s n d m e⟩]⟩:=by kernel_rfl
def qs_b_nd (p q r s:Bool) (n d m e:List Int):Prop:=((((↑n.length:Int)=(↑n.length:Int)/\(↑e.length:Int)=(↑e.length:Int))/\okL p n/\okL s e/\n.length+e.length<=(500000:Nat))/\((s=s/\(↑e.length:Int)=(↑e.length:Int))/\(q=q/\(↑d.length:Int)=(↑d.length:Int))/\(q=q/\(↑d.length:Int)=(↑d.length:Int))/\r=r/\(↑m.length:Int)=(↑m.length:Int))/\(((↑m.length:Int)=(↑m.length:Int)/\(↑d.length:Int)=(↑d.length:Int))/\okL r m/\okL q d/\m.length+d.length<=(500000:Nat))/\((s=s/\(↑e.length:Int)=(↑e.length:Int))/\q=q/\(↑d.length:Int)=(↑d.length:Int))/\(((↑(digs (zv p n*zv s e).natAbs).length:Int)==(0:Int))=false/\((↑(digs (zv r m*zv q d).natAbs).length:Int)==(0:Int))=true)/\((s=s/\(↑e.length:Int)=(↑e.length:Int))/\q=q/\(↑d.length:Int)=(↑d.length:Int))/\(((↑d.length:Int)=(↑d.length:Int)/\(↑e.length:Int)=(↑e.length:Int))/\okL q d/\okL s e/\d.length+e.length<=(500000:Nat))/\((↑(digs (zv p n*zv s e).natAbs).length:Int)=(↑(digs (zv p n*zv s e).natAbs).length:Int)/\(↑(digs (zv q d*zv s e).natAbs).length:Int)=(↑(digs (zv q d*zv s e).natAbs).length:Int))/\okL (decide (zv p n*zv s e<(0:Int))) (digs (zv p n*zv s e).natAbs)/\okL (decide (zv q d*zv s e<(0:Int))) (digs (zv q d*zv s e).natAbs)/\digs (zv q d*zv s e).natAbs≠[]/\(digs (zv p n*zv s e).natAbs).length<=(150000:Nat)/\(digs (zv q d*zv s e).natAbs).length<=(150000:Nat))
def qs_b_v (p q r s:Bool) (n d m e:List Int):AV:=(AV.agg [AV.bool true (decide ((Rat.divInt (zv (decide (zv p n*zv s e<(0:Int))) (digs (zv p n*zv s e).natAbs)) (zv (decide (zv q d*zv s e<(0:Int))) (digs (zv q d*zv s e).natAbs))).num<(0:Int))),AV.lslice 4 (↑(digs (Rat.divInt (zv (decide (zv p n*zv s e<(0:Int))) (digs (zv p n*zv s e).natAbs)) (zv (decide (zv q d*zv s e<(0:Int))) (digs (zv q d*zv s e).natAbs))).num.natAbs).length:Int),AV.bool true (decide ((↑(Rat.divInt (zv (decide (zv p n*zv s e<(0:Int))) (digs (zv p n*zv s e).natAbs)) (zv (decide (zv q d*zv s e<(0:Int))) (digs (zv q d*zv s e).natAbs))).den:Int)<(0:Int))),AV.lslice 5 (↑(digs (↑(Rat.divInt (zv (decide (zv p n*zv s e<(0:Int))) (digs (zv p n*zv s e).natAbs)) (zv (decide (zv q d*zv s e<(0:Int))) (digs (zv q d*zv s e).natAbs))).den:Int).natAbs).length:Int)])
def qs_b_h (p q r s:Bool) (n d m e:List Int):Hp:=⟨[{ wr:=36,body:=ABody.rows IntKind.i64 (digs (↑(Rat.divInt (zv (decide (zv p n*zv s e<(0:Int))) (digs (zv p n*zv s e).natAbs)) (zv (decide (zv q d*zv s e<(0:Int))) (digs (zv q d*zv s e).natAbs))).den:Int).natAbs) },{ wr:=36,body:=ABody.rows IntKind.i64 (digs (Rat.divInt (zv (decide (zv p n*zv s e<(0:Int))) (digs (zv p n*zv s e).natAbs)) (zv (decide (zv q d*zv s e<(0:Int))) (digs (zv q d*zv s e).natAbs))).num.natAbs) },{ wr:=(0:Nat),body:=ABody.rows IntKind.i64 e },{ wr:=(0:Nat),body:=ABody.rows IntKind.i64 m },{ wr:=(0:Nat),body:=ABody.rows IntKind.i64 d },{ wr:=(0:Nat),body:=ABody.rows IntKind.i64 n }],6,37⟩
theorem qs_b (p q r s:Bool) (n d m e:List Int):(run (cQz [(12,.bool false false),(17,.bool false true)]) 300).call 58 (sqArgs p q r s n d m e) (sqH n d m e)=some ⟨.p (qs_b_nd p q r s n d m e),[⟨.tt,qs_b_v p q r s n d m e,qs_b_h p q r s n d m e⟩]⟩:=by kernel_rfl
def qp_t_nd (p q r s:Bool) (n d m e:List Int):Prop:=((((↑n.length:Int)=(↑n.length:Int)/\(↑m.length:Int)=(↑m.length:Int))/\okL p n/\okL r m/\n.length+m.length<=(500000:Nat))/\((s=s/\(↑e.length:Int)=(↑e.length:Int))/\q=q/\(↑d.length:Int)=(↑d.length:Int))/\(((↑d.length:Int)=(↑d.length:Int)/\(↑e.length:Int)=(↑e.length:Int))/\okL q d/\okL s e/\d.length+e.length<=(500000:Nat))/\((↑(digs (zv p n*zv r m).natAbs).length:Int)=(↑(digs (zv p n*zv r m).natAbs).length:Int)/\(↑(digs (zv q d*zv s e).natAbs).length:Int)=(↑(digs (zv q d*zv s e).natAbs).length:Int))/\okL (decide (zv p n*zv r m<(0:Int))) (digs (zv p n*zv r m).natAbs)/\okL (decide (zv q d*zv s e<(0:Int))) (digs (zv q d*zv s e).natAbs)/\digs (zv q d*zv s e).natAbs≠[]/\(digs (zv p n*zv r m).natAbs).length<=(150000:Nat)/\(digs (zv q d*zv s e).natAbs).length<=(150000:Nat))
def qp_t_v (p q r s:Bool) (n d m e:List Int):AV:=(AV.agg [AV.bool true (decide ((Rat.divInt (zv (decide (zv p n*zv r m<(0:Int))) (digs (zv p n*zv r m).natAbs)) (zv (decide (zv q d*zv s e<(0:Int))) (digs (zv q d*zv s e).natAbs))).num<(0:Int))),AV.lslice 4 (↑(digs (Rat.divInt (zv (decide (zv p n*zv r m<(0:Int))) (digs (zv p n*zv r m).natAbs)) (zv (decide (zv q d*zv s e<(0:Int))) (digs (zv q d*zv s e).natAbs))).num.natAbs).length:Int),AV.bool true (decide ((↑(Rat.divInt (zv (decide (zv p n*zv r m<(0:Int))) (digs (zv p n*zv r m).natAbs)) (zv (decide (zv q d*zv s e<(0:Int))) (digs (zv q d*zv s e).natAbs))).den:Int)<(0:Int))),AV.lslice 5 (↑(digs (↑(Rat.divInt (zv (decide (zv p n*zv r m<(0:Int))) (digs (zv p n*zv r m).natAbs)) (zv (decide (zv q d*zv s e<(0:Int))) (digs (zv q d*zv s e).natAbs))).den:Int).natAbs).length:Int)])
def qp_t_h (p q r s:Bool) (n d m e:List Int):Hp:=⟨[{ wr:=16,body:=ABody.rows IntKind.i64 (digs (↑(Rat.divInt (zv (decide (zv p n*zv r m<(0:Int))) (digs (zv p n*zv r m).natAbs)) (zv (decide (zv q d*zv s e<(0:Int))) (digs (zv q d*zv s e).natAbs))).den:Int).natAbs) },{ wr:=16,body:=ABody.rows IntKind.i64 (digs (Rat.divInt (zv (decide (zv p n*zv r m<(0:Int))) (digs (zv p n*zv r m).natAbs)) (zv (decide (zv q d*zv s e<(0:Int))) (digs (zv q d*zv s e).natAbs))).num.natAbs) },{ wr:=(0:Nat),body:=ABody.rows IntKind.i64 e },{ wr:=(0:Nat),body:=ABody.rows IntKind.i64 m },{ wr:=(0:Nat),body:=ABody.rows IntKind.i64 d },{ wr:=(0:Nat),body:=ABody.rows IntKind.i64 n }],6,17⟩
theorem qp_t (p q r s:Bool) (n d m e:List Int):(run cQ2 300).call 61 (sqArgs p q r s n d m e) (sqH n d m e)=some ⟨.p (qp_t_nd p q r s n d m e),[⟨.tt,qp_t_v p q r s n d m e,qp_t_h p q r s n d m e⟩]⟩:=by kernel_rfl
end
end Go.Proofs.YtkbndjnibcjchaaGreatDoor.K
namespace Go.Proofs.YtkbndjnibcjchaaGreatDoor.K
open Go Go.Eng Go.Dg
noncomputable section
structure OkR (p q:Bool) (n d:List Int):Prop where
 hn:okL p n
 hd:okL q d
 ne:d≠[]
 ln:n.length<=2000
 ld:d.length<=2000
theorem okQr {p q:Bool} {n d:List Int} (h:OkQ p q n d):OkR p q n d:=⟨h.hn,h.hd,h.ne,by have:=h.ln; omega,by have:=h.ld; omega⟩
theorem ok_mul {p q:Bool} {a b:List Int} (ha:okL p a) (hb:okL q b) (la:a.length<=2000) (lb:b.length<=2000):okL (decide (zv p a*zv q b<0)) (digs (zv p a*zv q b).natAbs)/\(digs (zv p a*zv q b).natAbs).length<=4000/\((zv p a*zv q b).natAbs:Int)<pw 4000:=by
 have h1:=mul_len (len_abs ha) (len_abs hb)
 have h2:=pw_mono (show a.length+b.length<=4000 by omega)
 have h3:=pw_mono (show 4000<=500000 by decide)
 exact ⟨okL_digs (by omega),len_digs (by omega),by omega⟩
theorem ne_mul {p q:Bool} {a b:List Int} (ha:okL p a) (hb:okL q b) (na:a≠[]) (nb:b≠[]):digs (zv p a*zv q b).natAbs≠[]:=by
 intro e
 have e:=digs_nil.1 e
 have h1:zv p a≠0:=fun e=>na (ha.nil.2 e)
 have h2:zv q b≠0:=fun e=>nb (hb.nil.2 e)
 have:=Int.mul_ne_zero h1 h2
 omega
def sqV:List Nu->List (List Int)->Option (Prop×To)
 | [.t p,.t q,.t r,.t s],[n,d,m,e]=>some (OkR p q n d/\OkR r s m e,qT (qIn p q n d+qIn r s m e))
 | _,_=>none
theorem qsum_eq {p q r s:Bool} {n d m e:List Int} (h1:OkR p q n d) (h2:OkR r s m e):qIn p q n d+qIn r s m e=Rat.divInt (zv p n*zv s e+zv r m*zv q d) (zv q d*zv s e):=
 Rat.divInt_add_divInt _ _ (fun e=>h1.ne (h1.hd.nil.2 e)) (fun e=>h2.ne (h2.hd.nil.2 e))
theorem sumq_ok:NOk Tryz.prog (fun _=>none) hG0 58 (mSpec hG0 .i64 psQ2 sqV):=by
 refine msp_runs (fun xs ys p t e h=>?_) ⟨_,Tryz.func58,rfl⟩
 unfold sqV at e
 split at e
 .rename_i p q r s n d m e
  cases e
  obtain ⟨h1,h2⟩:=h
  have a1:=h1.hn
  have a2:=h1.hd
  have a3:=h2.hn
  have a4:=h2.hd
  have l1:=h1.ln
  have l2:=h1.ld
  have l3:=h2.ln
  have l4:=h2.ld
  have m1:n.length+e.length<=500000:=by omega
  have m2:m.length+d.length<=500000:=by omega
  have m3:d.length+e.length<=500000:=by omega
  obtain ⟨b1,c1,d1⟩:=ok_mul a1 a4 l1 l4
  obtain ⟨b2,c2,d2⟩:=ok_mul a3 a2 l3 l2
  obtain ⟨b3,c3,d3⟩:=ok_mul a2 a4 l2 l4
  have n3:=ne_mul a2 a4 h1.ne h2.ne
  have k3:(digs (zv q d*zv s e).natAbs).length<=150000:=by omega
  have hp4:=pw_mono (show 4000<=500000 by decide)
  rw [qsum_eq h1 h2]
  by_cases z1:zv p n*zv s e=0
  .have z2:((↑(digs (zv p n*zv s e).natAbs).length:Int)==0)=true:=by rw [z1]; exact eb.2 (by rw [show digs (0:Int).natAbs=[] from digs_zero]; rfl)
   have k2:(digs (zv r m*zv q d).natAbs).length<=150000:=by omega
   rw [z1,Int.zero_add]
   refine ⟨cQz [(12,.bool false true)],300,sqArgs p q r s n d m e,_,_,_,_,_,cQz_ok _,rfl,rfl,⟨⟨rfl,rfl,rfl,rfl,trivial⟩,⟨rfl,rfl,rfl,rfl,trivial⟩,trivial⟩,qs_a p q r s n d m e,rfl,?_,rfl,rfl,?_⟩
   .unfold qs_a_nd
    simp only [zv_digs]
    repeat' first|exact trivial|exact rfl|assumption|refine And.intro ?_ ?_
   .refine ⟨?_,⟨?_,?_⟩,?_,⟨?_,?_⟩⟩
    .show decide ((Rat.divInt (zv _ _) (zv _ _)).num<0)=_
     rw [zv_digs,zv_digs]
    .rfl
    .show digs (Rat.divInt (zv _ _) (zv _ _)).num.natAbs=_
     rw [zv_digs,zv_digs]
    .show decide (((Rat.divInt (zv _ _) (zv _ _)).den:Int)<0)=_
     rw [zv_digs,zv_digs]
    .rfl
    .show digs ((Rat.divInt (zv _ _) (zv _ _)).den:Int).natAbs=_
     rw [zv_digs,zv_digs]
  .have z2:((↑(digs (zv p n*zv s e).natAbs).length:Int)==0)=false:=by
    have:=digs_len_pos (n:=(zv p n*zv s e).natAbs) (by omega)
    exact neb.2 (by omega)
   by_cases y1:zv r m*zv q d=0
   .have y2:((↑(digs (zv r m*zv q d).natAbs).length:Int)==0)=true:=by rw [y1]; exact eb.2 (by rw [show digs (0:Int).natAbs=[] from digs_zero]; rfl)
    have k2:(digs (zv p n*zv s e).natAbs).length<=150000:=by omega
    rw [y1,Int.add_zero]
    refine ⟨cQz [(12,.bool false false),(17,.bool false true)],300,sqArgs p q r s n d m e,_,_,_,_,_,cQz_ok _,rfl,rfl,⟨⟨rfl,rfl,rfl,rfl,trivial⟩,⟨rfl,rfl,rfl,rfl,trivial⟩,trivial⟩,qs_b p q r s n d m e,rfl,?_,rfl,rfl,?_⟩
    .unfold qs_b_nd
     simp only [zv_digs]
     repeat' first|exact trivial|exact rfl|assumption|refine And.intro ?_ ?_
    .refine ⟨?_,⟨?_,?_⟩,?_,⟨?_,?_⟩⟩
     .show decide ((Rat.divInt (zv _ _) (zv _ _)).num<0)=_
      rw [zv_digs,zv_digs]
     .rfl
     .show digs (Rat.divInt (zv _ _) (zv _ _)).num.natAbs=_
      rw [zv_digs,zv_digs]
     .show decide (((Rat.divInt (zv _ _) (zv _ _)).den:Int)<0)=_
      rw [zv_digs,zv_digs]
     .rfl
     .show digs ((Rat.divInt (zv _ _) (zv _ _)).den:Int).natAbs=_
      rw [zv_digs,zv_digs]
   .have x1:digs (zv p n*zv s e).natAbs≠[]:=fun e=>z1 (by have:=digs_nil.1 e; omega)
    have x2:digs (zv r m*zv q d).natAbs≠[]:=fun e=>y1 (by have:=digs_nil.1 e; omega)
    obtain ⟨x3,x4,x5⟩:=sum_len (m:=400000) (l:=150000) d1 d2 (by decide) (by decide) (by decide)
    refine ⟨cQ2,300,sqArgs p q r s n d m e,_,_,_,_,_,cQ2_ok,rfl,rfl,⟨⟨rfl,rfl,rfl,rfl,trivial⟩,⟨rfl,rfl,rfl,rfl,trivial⟩,trivial⟩,qs_n p q r s n d m e,rfl,?_,rfl,rfl,?_⟩
    .unfold qs_n_nd
     simp only [zv_digs]
     repeat' first|exact trivial|exact rfl|assumption|refine And.intro ?_ ?_
    .refine ⟨?_,⟨?_,?_⟩,?_,⟨?_,?_⟩⟩
     .show decide ((Rat.divInt (zv (decide (zv _ _+zv _ _<0)) _) (zv _ _)).num<0)=_
      simp only [zv_digs]
     .rfl
     .show digs (Rat.divInt (zv (decide (zv _ _+zv _ _<0)) _) (zv _ _)).num.natAbs=_
      simp only [zv_digs]
     .show decide (((Rat.divInt (zv (decide (zv _ _+zv _ _<0)) _) (zv _ _)).den:Int)<0)=_
      simp only [zv_digs]
     .rfl
     .show digs ((Rat.divInt (zv (decide (zv _ _+zv _ _<0)) _) (zv _ _)).den:Int).natAbs=_
      simp only [zv_digs]
 .cases e
def pqV:List Nu->List (List Int)->Option (Prop×To)
 | [.t p,.t q,.t r,.t s],[n,d,m,e]=>some (OkR p q n d/\OkR r s m e,qT (qIn p q n d*qIn r s m e))
 | _,_=>none
theorem prodq_ok:NOk Tryz.prog (fun _=>none) hG0 61 (mSpec hG0 .i64 psQ2 pqV):=by
 refine msp_runs (fun xs ys p t e h=>?_) ⟨_,Tryz.func61,rfl⟩
 unfold pqV at e
 split at e
 .rename_i p q r s n d m e
  cases e
  obtain ⟨h1,h2⟩:=h
  have a1:=h1.hn
  have a2:=h1.hd
  have a3:=h2.hn
  have a4:=h2.hd
  have l1:=h1.ln
  have l2:=h1.ld
  have l3:=h2.ln
  have l4:=h2.ld
  have m1:n.length+m.length<=500000:=by omega
  have m3:d.length+e.length<=500000:=by omega
  obtain ⟨b1,c1,d1⟩:=ok_mul a1 a3 l1 l3
  obtain ⟨b3,c3,d3⟩:=ok_mul a2 a4 l2 l4
  have n3:=ne_mul a2 a4 h1.ne h2.ne
  have k1:(digs (zv p n*zv r m).natAbs).length<=150000:=by omega
  have k3:(digs (zv q d*zv s e).natAbs).length<=150000:=by omega
  have e0:qIn p q n d*qIn r s m e=Rat.divInt (zv p n*zv r m) (zv q d*zv s e):=Rat.divInt_mul_divInt _ _
  rw [e0]
  refine ⟨cQ2,300,sqArgs p q r s n d m e,_,_,_,_,_,cQ2_ok,rfl,rfl,⟨⟨rfl,rfl,rfl,rfl,trivial⟩,⟨rfl,rfl,rfl,rfl,trivial⟩,trivial⟩,qp_t p q r s n d m e,rfl,?_,rfl,rfl,?_⟩
  .unfold qp_t_nd
   simp only [zv_digs]
   repeat' first|exact trivial|exact rfl|assumption|refine And.intro ?_ ?_
  .refine ⟨?_,⟨?_,?_⟩,?_,⟨?_,?_⟩⟩
   .show decide ((Rat.divInt (zv _ _) (zv _ _)).num<0)=_
    rw [zv_digs,zv_digs]
   .rfl
   .show digs (Rat.divInt (zv _ _) (zv _ _)).num.natAbs=_
    rw [zv_digs,zv_digs]
   .show decide (((Rat.divInt (zv _ _) (zv _ _)).den:Int)<0)=_
    rw [zv_digs,zv_digs]
   .rfl
   .show digs ((Rat.divInt (zv _ _) (zv _ _)).den:Int).natAbs=_
    rw [zv_digs,zv_digs]
 .cases e
end
end Go.Proofs.YtkbndjnibcjchaaGreatDoor.K
namespace Go.Proofs.YtkbndjnibcjchaaGreatDoor.K
open Go Go.Eng Go.Dg
noncomputable section
def tQ4:List (FuncId×NSpec):=(58,mSpec hG0 .i64 psQ2 sqV) :: (61,mSpec hG0 .i64 psQ2 pqV) :: tQ2
theorem tQ4_ok:∀ x∈tQ4,NOk Tryz.prog (fun _=>none) hG0 x.1 x.2:=by
 intro x hx
 rcases List.mem_cons.1 hx with rfl|hx
 .exact sumq_ok
 rcases List.mem_cons.1 hx with rfl|hx
 .exact prodq_ok
 exact tQ2_ok x hx
def cQ4 (l:List (Nat×AV)):Ctx:=hinting (mkN Tryz.prog (fun _=>none) hG0 tQ4 [] noExt) (hintsT l)
theorem cQ4_ok (l:List (Nat×AV)):CtxOk (cQ4 l):=hinting_ok (mkN_ok prog_ok (noExt_ok _) tQ4_ok (fun x h=>by cases h)) _
def hTold:List (Nat×AV):=[(8,.bool false false),(14,.bool false false)]
end
end Go.Proofs.YtkbndjnibcjchaaGreatDoor.K
namespace Go.Proofs.YtkbndjnibcjchaaGreatDoor.K
open Go Go.Eng Go.Dg
noncomputable section
def qa_t_nd (p q r s:Bool) (n d m e:List Int):Prop:=(((((↑n.length:Int)=(↑n.length:Int)/\(↑d.length:Int)=(↑d.length:Int))/\OkQ p q n d)/\false=false/\((↑m.length:Int)=(↑m.length:Int)/\(↑e.length:Int)=(↑e.length:Int))/\OkQ r s m e)/\((((↑n.length:Int)=(↑n.length:Int)/\(↑d.length:Int)=(↑d.length:Int))/\(↑m.length:Int)=(↑m.length:Int)/\(↑e.length:Int)=(↑e.length:Int))/\OkR p q n d/\OkR r s m e)/\decide ((↑(digs (qIn p q n d+qIn r s m e).num.natAbs).length:Int)>(600:Int))=false/\decide ((↑(digs (↑(qIn p q n d+qIn r s m e).den:Int).natAbs).length:Int)>(600:Int))=false)
def qa_t_v (p q r s:Bool) (n d m e:List Int):AV:=(AV.tuple [AV.agg [AV.bool true (decide ((qIn p q n d+qIn r s m e).num<(0:Int))),AV.lslice 4 (↑(digs (qIn p q n d+qIn r s m e).num.natAbs).length:Int),AV.bool true (decide ((↑(qIn p q n d+qIn r s m e).den:Int)<(0:Int))),AV.lslice 5 (↑(digs (↑(qIn p q n d+qIn r s m e).den:Int).natAbs).length:Int)],AV.int false IntKind.i64 (Int.ofNat (0:Nat))])
def qa_t_h (p q r s:Bool) (n d m e:List Int):Hp:=⟨[{ wr:=17,body:=ABody.rows IntKind.i64 (digs (↑(qIn p q n d+qIn r s m e).den:Int).natAbs) },{ wr:=17,body:=ABody.rows IntKind.i64 (digs (qIn p q n d+qIn r s m e).num.natAbs) },{ wr:=(0:Nat),body:=ABody.rows IntKind.i64 e },{ wr:=(0:Nat),body:=ABody.rows IntKind.i64 m },{ wr:=(0:Nat),body:=ABody.rows IntKind.i64 d },{ wr:=(0:Nat),body:=ABody.rows IntKind.i64 n }],6,41⟩
theorem qa_t (p q r s:Bool) (n d m e:List Int):(run (cQ4 hTold) 300).call 28 (sqArgs p q r s n d m e) (sqH n d m e)=some ⟨.p (qa_t_nd p q r s n d m e),[⟨.tt,qa_t_v p q r s n d m e,qa_t_h p q r s n d m e⟩]⟩:=by kernel_rfl
def qb_t_nd (p q r s:Bool) (n d m e:List Int):Prop:=(((((↑n.length:Int)=(↑n.length:Int)/\(↑d.length:Int)=(↑d.length:Int))/\OkQ p q n d)/\false=false/\((↑m.length:Int)=(↑m.length:Int)/\(↑e.length:Int)=(↑e.length:Int))/\OkQ r s m e)/\(((↑m.length:Int)=(↑m.length:Int)/\okL r m)/\s=s/\(↑e.length:Int)=(↑e.length:Int))/\(p=p/\(↑n.length:Int)=(↑n.length:Int)/\q=q/\(↑d.length:Int)=(↑d.length:Int))/\((((↑n.length:Int)=(↑n.length:Int)/\(↑d.length:Int)=(↑d.length:Int))/\(↑(digs (-zv r m).natAbs).length:Int)=(↑(digs (-zv r m).natAbs).length:Int)/\(↑e.length:Int)=(↑e.length:Int))/\OkR p q n d/\OkR (decide (-zv r m<(0:Int))) s (digs (-zv r m).natAbs) e)/\decide ((↑(digs (qIn p q n d+qIn (decide (-zv r m<(0:Int))) s (digs (-zv r m).natAbs) e).num.natAbs).length:Int)>(600:Int))=false/\decide ((↑(digs (↑(qIn p q n d+qIn (decide (-zv r m<(0:Int))) s (digs (-zv r m).natAbs) e).den:Int).natAbs).length:Int)>(600:Int))=false)
def qb_t_v (p q r s:Bool) (n d m e:List Int):AV:=(AV.tuple [AV.agg [AV.bool true (decide ((qIn p q n d+qIn (decide (-zv r m<(0:Int))) s (digs (-zv r m).natAbs) e).num<(0:Int))),AV.lslice 4 (↑(digs (qIn p q n d+qIn (decide (-zv r m<(0:Int))) s (digs (-zv r m).natAbs) e).num.natAbs).length:Int),AV.bool true (decide ((↑(qIn p q n d+qIn (decide (-zv r m<(0:Int))) s (digs (-zv r m).natAbs) e).den:Int)<(0:Int))),AV.lslice 5 (↑(digs (↑(qIn p q n d+qIn (decide (-zv r m<(0:Int))) s (digs (-zv r m).natAbs) e).den:Int).natAbs).length:Int)],AV.int false IntKind.i64 (Int.ofNat (0:Nat))])
def qb_t_h (p q r s:Bool) (n d m e:List Int):Hp:=⟨[{ wr:=28,body:=ABody.rows IntKind.i64 (digs (↑(qIn p q n d+qIn (decide (-zv r m<(0:Int))) s (digs (-zv r m).natAbs) e).den:Int).natAbs) },{ wr:=28,body:=ABody.rows IntKind.i64 (digs (qIn p q n d+qIn (decide (-zv r m<(0:Int))) s (digs (-zv r m).natAbs) e).num.natAbs) },{ wr:=(0:Nat),body:=ABody.rows IntKind.i64 e },{ wr:=(0:Nat),body:=ABody.rows IntKind.i64 m },{ wr:=(0:Nat),body:=ABody.rows IntKind.i64 d },{ wr:=(0:Nat),body:=ABody.rows IntKind.i64 n }],6,52⟩
theorem qb_t (p q r s:Bool) (n d m e:List Int):(run (cQ4 hTold) 300).call 25 (sqArgs p q r s n d m e) (sqH n d m e)=some ⟨.p (qb_t_nd p q r s n d m e),[⟨.tt,qb_t_v p q r s n d m e,qb_t_h p q r s n d m e⟩]⟩:=by kernel_rfl
def qm_t_nd (p q r s:Bool) (n d m e:List Int):Prop:=(((((↑n.length:Int)=(↑n.length:Int)/\(↑d.length:Int)=(↑d.length:Int))/\OkQ p q n d)/\false=false/\((↑m.length:Int)=(↑m.length:Int)/\(↑e.length:Int)=(↑e.length:Int))/\OkQ r s m e)/\((((↑n.length:Int)=(↑n.length:Int)/\(↑d.length:Int)=(↑d.length:Int))/\(↑m.length:Int)=(↑m.length:Int)/\(↑e.length:Int)=(↑e.length:Int))/\OkR p q n d/\OkR r s m e)/\decide ((↑(digs (qIn p q n d*qIn r s m e).num.natAbs).length:Int)>(600:Int))=false/\decide ((↑(digs (↑(qIn p q n d*qIn r s m e).den:Int).natAbs).length:Int)>(600:Int))=false)
def qm_t_v (p q r s:Bool) (n d m e:List Int):AV:=(AV.tuple [AV.agg [AV.bool true (decide ((qIn p q n d*qIn r s m e).num<(0:Int))),AV.lslice 4 (↑(digs (qIn p q n d*qIn r s m e).num.natAbs).length:Int),AV.bool true (decide ((↑(qIn p q n d*qIn r s m e).den:Int)<(0:Int))),AV.lslice 5 (↑(digs (↑(qIn p q n d*qIn r s m e).den:Int).natAbs).length:Int)],AV.int false IntKind.i64 (Int.ofNat (0:Nat))])
def qm_t_h (p q r s:Bool) (n d m e:List Int):Hp:=⟨[{ wr:=17,body:=ABody.rows IntKind.i64 (digs (↑(qIn p q n d*qIn r s m e).den:Int).natAbs) },{ wr:=17,body:=ABody.rows IntKind.i64 (digs (qIn p q n d*qIn r s m e).num.natAbs) },{ wr:=(0:Nat),body:=ABody.rows IntKind.i64 e },{ wr:=(0:Nat),body:=ABody.rows IntKind.i64 m },{ wr:=(0:Nat),body:=ABody.rows IntKind.i64 d },{ wr:=(0:Nat),body:=ABody.rows IntKind.i64 n }],6,41⟩
theorem qm_t (p q r s:Bool) (n d m e:List Int):(run (cQ4 hTold) 300).call 27 (sqArgs p q r s n d m e) (sqH n d m e)=some ⟨.p (qm_t_nd p q r s n d m e),[⟨.tt,qm_t_v p q r s n d m e,qm_t_h p q r s n d m e⟩]⟩:=by kernel_rfl
def qg_t_nd (p q:Bool) (n d:List Int):Prop:=((((↑n.length:Int)=(↑n.length:Int)/\(↑d.length:Int)=(↑d.length:Int))/\OkQ p q n d)/\Int.natAbs (0:Int)<=(9223372036854775808:Nat)/\(p=p/\(↑n.length:Int)=(↑n.length:Int))/\((↑n.length:Int)=(↑n.length:Int)/\(↑(digs (Int.natAbs (0:Int))).length:Int)=(↑(digs (Int.natAbs (0:Int))).length:Int))/\okL p n/\okL (decide ((0:Int)<(0:Int))) (digs (Int.natAbs (0:Int))))
def qg_t_v (p q:Bool) (n d:List Int):AV:=(AV.tuple [AV.int true IntKind.i64 (ordZ (zv p n) (zv (decide ((0:Int)<(0:Int))) (digs (Int.natAbs (0:Int))))),AV.int false IntKind.i64 (Int.ofNat (0:Nat))])
def qg_t_h (p q:Bool) (n d:List Int):Hp:=⟨[{ wr:=(0:Nat),body:=ABody.rows IntKind.i64 d },{ wr:=(0:Nat),body:=ABody.rows IntKind.i64 n }],2,14⟩
theorem qg_t (p q:Bool) (n d:List Int):(run (cQ4 []) 300).call 24 (rqArgs p q n d) (leH n d)=some ⟨.p (qg_t_nd p q n d),[⟨.tt,qg_t_v p q n d,qg_t_h p q n d⟩]⟩:=by kernel_rfl
def qo_t_nd (x y:Int):Prop:=(x.natAbs<=(9223372036854775808:Nat)/\y.natAbs<=(9223372036854775808:Nat)/\(((↑(digs x.natAbs).length:Int)=(↑(digs x.natAbs).length:Int)/\okL (decide (x<(0:Int))) (digs x.natAbs)/\(digs x.natAbs).length<=(600:Nat))/\(↑(digs y.natAbs).length:Int)=(↑(digs y.natAbs).length:Int)/\okL (decide (y<(0:Int))) (digs y.natAbs)/\(digs y.natAbs).length<=(600:Nat))/\((↑(digs y.natAbs).length:Int)==(0:Int))=false/\((↑(digs x.natAbs).length:Int)=(↑(digs x.natAbs).length:Int)/\(↑(digs y.natAbs).length:Int)=(↑(digs y.natAbs).length:Int))/\okL (decide (x<(0:Int))) (digs x.natAbs)/\okL (decide (y<(0:Int))) (digs y.natAbs)/\digs y.natAbs≠[]/\(digs x.natAbs).length<=(150000:Nat)/\(digs y.natAbs).length<=(150000:Nat))
def qo_t_v (x y:Int):AV:=(AV.tuple [AV.agg [AV.bool true (decide ((Rat.divInt (zv (decide (x<(0:Int))) (digs x.natAbs)) (zv (decide (y<(0:Int))) (digs y.natAbs))).num<(0:Int))),AV.lslice (0:Nat) (↑(digs (Rat.divInt (zv (decide (x<(0:Int))) (digs x.natAbs)) (zv (decide (y<(0:Int))) (digs y.natAbs))).num.natAbs).length:Int),AV.bool true (decide ((↑(Rat.divInt (zv (decide (x<(0:Int))) (digs x.natAbs)) (zv (decide (y<(0:Int))) (digs y.natAbs))).den:Int)<(0:Int))),AV.lslice 1 (↑(digs (↑(Rat.divInt (zv (decide (x<(0:Int))) (digs x.natAbs)) (zv (decide (y<(0:Int))) (digs y.natAbs))).den:Int).natAbs).length:Int)],AV.int false IntKind.i64 (Int.ofNat (0:Nat))])
def qo_t_h (x y:Int):Hp:=⟨[{ wr:=29,body:=ABody.rows IntKind.i64 (digs (↑(Rat.divInt (zv (decide (x<(0:Int))) (digs x.natAbs)) (zv (decide (y<(0:Int))) (digs y.natAbs))).den:Int).natAbs) },{ wr:=29,body:=ABody.rows IntKind.i64 (digs (Rat.divInt (zv (decide (x<(0:Int))) (digs x.natAbs)) (zv (decide (y<(0:Int))) (digs y.natAbs))).num.natAbs) }],2,35⟩
theorem qo_t (x y:Int):(run (cQ4 [(18,.bool false false)]) 300).call 26 [.int true .i64 x,.int true .i64 y] hG0=some ⟨.p (qo_t_nd x y),[⟨.tt,qo_t_v x y,qo_t_h x y⟩]⟩:=by kernel_rfl
end
end Go.Proofs.YtkbndjnibcjchaaGreatDoor.K
namespace Go.Proofs.YtkbndjnibcjchaaGreatDoor.K
open Go Go.Eng Go.Dg
noncomputable section
theorem sz_len {x:Rat} (h:SzQ x):decide ((↑(digs x.num.natAbs).length:Int)>(600:Int))=false/\decide ((↑(digs (↑x.den:Int).natAbs).length:Int)>(600:Int))=false:=by
 have h1:=len_digs (n:=x.num.natAbs) (k:=600) h.1
 have h2:=len_digs (n:=(x.den:Int).natAbs) (k:=600) (by have:=h.2; omega)
 exact ⟨decide_eq_false (by omega),decide_eq_false (by omega)⟩
def adV (f:Rat->Rat->Rat):List Nu->List (List Int)->Option (Prop×To)
 | [.t p,.t q,.t r,.t s],[n,d,m,e]=>some (OkQ p q n d/\OkQ r s m e/\SzQ (f (qIn p q n d) (qIn r s m e)),.tu [qT (f (qIn p q n d) (qIn r s m e)),.pn .i64 0])
 | _,_=>none
theorem addq_ok:NOk Tryz.prog (fun _=>none) hG0 28 (mSpec hG0 .i64 psQ2 (adV fun x y=>x+y)):=by
 refine msp_runs (fun xs ys p t e h=>?_) ⟨_,Tryz.func28,rfl⟩
 unfold adV at e
 split at e
 .rename_i p q r s n d m e
  cases e
  obtain ⟨h1,h2,h3⟩:=h
  obtain ⟨l1,l2⟩:=sz_len h3
  exact ⟨cQ4 hTold,300,sqArgs p q r s n d m e,_,_,_,_,_,cQ4_ok _,rfl,rfl,⟨⟨rfl,rfl,rfl,rfl,trivial⟩,⟨rfl,rfl,rfl,rfl,trivial⟩,trivial⟩,qa_t p q r s n d m e,rfl,⟨⟨⟨⟨rfl,rfl⟩,h1⟩,rfl,⟨rfl,rfl⟩,h2⟩,⟨⟨⟨rfl,rfl⟩,rfl,rfl⟩,okQr h1,okQr h2⟩,l1,l2⟩,rfl,rfl,⟨⟨rfl,⟨rfl,rfl⟩,rfl,rfl,rfl⟩,rfl⟩⟩
 .cases e
theorem mulq_ok:NOk Tryz.prog (fun _=>none) hG0 27 (mSpec hG0 .i64 psQ2 (adV fun x y=>x*y)):=by
 refine msp_runs (fun xs ys p t e h=>?_) ⟨_,Tryz.func27,rfl⟩
 unfold adV at e
 split at e
 .rename_i p q r s n d m e
  cases e
  obtain ⟨h1,h2,h3⟩:=h
  obtain ⟨l1,l2⟩:=sz_len h3
  exact ⟨cQ4 hTold,300,sqArgs p q r s n d m e,_,_,_,_,_,cQ4_ok _,rfl,rfl,⟨⟨rfl,rfl,rfl,rfl,trivial⟩,⟨rfl,rfl,rfl,rfl,trivial⟩,trivial⟩,qm_t p q r s n d m e,rfl,⟨⟨⟨⟨rfl,rfl⟩,h1⟩,rfl,⟨rfl,rfl⟩,h2⟩,⟨⟨⟨rfl,rfl⟩,rfl,rfl⟩,okQr h1,okQr h2⟩,l1,l2⟩,rfl,rfl,⟨⟨rfl,⟨rfl,rfl⟩,rfl,rfl,rfl⟩,rfl⟩⟩
 .cases e
theorem qIn_neg {r s:Bool} {m e:List Int}:qIn (decide (-zv r m<0)) s (digs (-zv r m).natAbs) e=-qIn r s m e:=by
 unfold qIn
 rw [zv_digs,Rat.neg_divInt]
theorem subq_ok:NOk Tryz.prog (fun _=>none) hG0 25 (mSpec hG0 .i64 psQ2 (adV fun x y=>x - y)):=by
 refine msp_runs (fun xs ys p t e h=>?_) ⟨_,Tryz.func25,rfl⟩
 unfold adV at e
 split at e
 .rename_i p q r s n d m e
  cases e
  obtain ⟨h1,h2,h3⟩:=h
  have e0:qIn p q n d - qIn r s m e=qIn p q n d+qIn (decide (-zv r m<0)) s (digs (-zv r m).natAbs) e:=by rw [qIn_neg,Rat.sub_eq_add_neg]
  have h3:SzQ (qIn p q n d - qIn r s m e):=h3
  show MRun _ _ _ _ _ _ _ _ (.tu [qT (qIn p q n d - qIn r s m e),.pn .i64 0])
  rw [e0] at h3 ⊢
  obtain ⟨l1,l2⟩:=sz_len h3
  have en:(-zv r m).natAbs=(zv r m).natAbs:=Int.natAbs_neg _
  have am:=len_abs h2.hn
  have lm:=h2.ln
  have hm:okL (decide (-zv r m<0)) (digs (-zv r m).natAbs)/\(digs (-zv r m).natAbs).length<=2000:=by
   have h5:=pw_mono (show m.length<=500000 by omega)
   refine ⟨okL_digs ?_,?_⟩
   .rw [en]; generalize pw 500000=W at *; omega
   .have:=len_digs (n:=(-zv r m).natAbs) (k:=m.length) (by rw [en]; exact am)
    omega
  have h4:OkR (decide (-zv r m<0)) s (digs (-zv r m).natAbs) e:=⟨hm.1,h2.hd,h2.ne,hm.2,by have:=h2.ld; omega⟩
  exact ⟨cQ4 hTold,300,sqArgs p q r s n d m e,_,_,_,_,_,cQ4_ok _,rfl,rfl,⟨⟨rfl,rfl,rfl,rfl,trivial⟩,⟨rfl,rfl,rfl,rfl,trivial⟩,trivial⟩,qb_t p q r s n d m e,rfl,⟨⟨⟨⟨rfl,rfl⟩,h1⟩,rfl,⟨rfl,rfl⟩,h2⟩,⟨⟨rfl,h2.hn⟩,rfl,rfl⟩,⟨rfl,rfl,rfl,rfl⟩,⟨⟨⟨rfl,rfl⟩,rfl,rfl⟩,okQr h1,h4⟩,l1,l2⟩,rfl,rfl,⟨⟨rfl,⟨rfl,rfl⟩,rfl,rfl,rfl⟩,rfl⟩⟩
 .cases e
def sgQ (x:Rat):Int:=ordZ x.num 0
def sgV:List Nu->List (List Int)->Option (Prop×To)
 | [.t p,.t q],[n,d]=>some (OkQ p q n d,.tu [.nu .i64 (sgQ (qIn p q n d)),.pn .i64 0])
 | _,_=>none
theorem signq_ok:NOk Tryz.prog (fun _=>none) hG0 24 (mSpec hG0 .i64 psQ sgV):=by
 refine msp_runs (fun xs ys p t e h=>?_) ⟨_,Tryz.func24,rfl⟩
 unfold sgV at e
 split at e
 .rename_i p q n d
  cases e
  have hz:okL (decide ((0:Int)<0)) (digs (Int.natAbs 0)):=okL_digs (z:=0) (pw_pos _)
  refine ⟨cQ4 [],300,rqArgs p q n d,_,_,_,_,_,cQ4_ok _,rfl,rfl,⟨⟨rfl,rfl,rfl,rfl,trivial⟩,trivial⟩,qg_t p q n d,rfl,⟨⟨⟨rfl,rfl⟩,h⟩,by decide,⟨rfl,rfl⟩,⟨rfl,rfl⟩,h.hn,hz⟩,rfl,rfl,⟨?_,rfl⟩⟩
  show ordZ (zv p n) (zv (decide ((0:Int)<0)) (digs (Int.natAbs 0)))=ordZ (qIn p q n d).num 0
  rw [h.parts.1,zv_digs 0]
 .cases e
def foV:List Nu->List (List Int)->Option (Prop×To)
 | [.n x,.n y],[]=>some (x.natAbs<=9223372036854775808/\y.natAbs<=9223372036854775808/\y≠0,.tu [qT (Rat.divInt x y),.pn .i64 0])
 | _,_=>none
theorem ofq_ok:NOk Tryz.prog (fun _=>none) hG0 26 (mSpec hG0 .i64 [.nu (.i .i64),.nu (.i .i64)] foV):=by
 refine msp_runs (fun xs ys p t e h=>?_) ⟨_,Tryz.func26,rfl⟩
 unfold foV at e
 split at e
 .rename_i x y
  cases e
  obtain ⟨h1,h2,h3⟩:=h
  have b:∀ z:Int,z.natAbs<=9223372036854775808->okL (decide (z<0)) (digs z.natAbs)/\(digs z.natAbs).length<=3:=by
   intro z hz
   have e3:pw 3=1000000000000000000000000000:=by decide
   have h5:=pw_mono (show 3<=500000 by decide)
   refine ⟨okL_digs ?_,len_digs (by omega)⟩
   generalize pw 500000=W at *; omega
  obtain ⟨o1,l1⟩:=b x h1
  obtain ⟨o2,l2⟩:=b y h2
  have ny:digs y.natAbs≠[]:=fun e=>h3 (by have:=digs_nil.1 e; omega)
  have z2:((↑(digs y.natAbs).length:Int)==(0:Int))=false:=neb.2 (by have:=List.length_pos_iff.2 ny; omega)
  refine ⟨cQ4 [(18,.bool false false)],300,[.int true .i64 x,.int true .i64 y],_,_,_,_,_,cQ4_ok _,rfl,rfl,⟨⟨rfl,rfl⟩,⟨rfl,rfl⟩,trivial⟩,qo_t x y,rfl,⟨h1,h2,⟨⟨rfl,o1,by omega⟩,rfl,o2,by omega⟩,z2,⟨rfl,rfl⟩,o1,o2,ny,by omega,by omega⟩,rfl,rfl,⟨⟨?_,⟨?_,?_⟩,?_,?_,?_⟩,rfl⟩⟩
  .show decide ((Rat.divInt (zv _ _) (zv _ _)).num<0)=_
   rw [zv_digs,zv_digs]
  .rfl
  .show digs (Rat.divInt (zv _ _) (zv _ _)).num.natAbs=_
   rw [zv_digs,zv_digs]
  .show decide (((Rat.divInt (zv _ _) (zv _ _)).den:Int)<0)=_
   rw [zv_digs,zv_digs]
  .rfl
  .show digs ((Rat.divInt (zv _ _) (zv _ _)).den:Int).natAbs=_
   rw [zv_digs,zv_digs]
 .cases e
def tFr:List (FuncId×NSpec):=[(28,mSpec hG0 .i64 psQ2 (adV fun x y=>x+y)),(25,mSpec hG0 .i64 psQ2 (adV fun x y=>x - y)),(27,mSpec hG0 .i64 psQ2 (adV fun x y=>x*y)),(24,mSpec hG0 .i64 psQ sgV),(26,mSpec hG0 .i64 [.nu (.i .i64),.nu (.i .i64)] foV)]
theorem tFr_ok:∀ x∈tFr,NOk Tryz.prog (fun _=>none) hG0 x.1 x.2:=by
 intro x hx
 simp only [tFr,List.mem_cons,List.not_mem_nil,or_false] at hx
 rcases hx with rfl|rfl|rfl|rfl|rfl
 .exact addq_ok
 .exact subq_ok
 .exact mulq_ok
 .exact signq_ok
 .exact ofq_ok
end
end Go.Proofs.YtkbndjnibcjchaaGreatDoor.K
