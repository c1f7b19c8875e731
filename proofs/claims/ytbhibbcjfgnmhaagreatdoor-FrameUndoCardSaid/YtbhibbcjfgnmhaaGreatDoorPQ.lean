/- What is proved: FrameUndo returns true, whatever the input (part 17). No conditions beyond those of the row. -/
import Derived.Test.YtbhibbcjfgnmhaaGreatDoorPP
set_option linter.unusedVariables false
set_option linter.unusedSimpArgs false
set_option linter.unusedSectionVars false
namespace Go.Proofs.YtbhibbcjfgnmhaaGreatDoor.K
open Go Go.Eng Go.Dg Go.Ar Go.Vc Go.Sn
noncomputable section
theorem ES {p q n:Int} (h:p<=n/\n<=q):hs p q n=true:=by
 unfold hs
 rw [decide_eq_true h.1,decide_eq_true h.2]; rfl
theorem SH {U:Mat} (h:unH U):unV U=true:=by
 obtain ⟨⟨h1,h2,h3⟩,⟨h4,h5,h6⟩,h7,h8,h9⟩:=h
 unfold unV
 rw [ES h1,ES h2,ES h3,ES h4,ES h5,ES h6,ES h7,ES h8,ES h9]; rfl
theorem Z8 (a:Int):-90000000<=unA a/\unA a<=90000000/\unB a=-unA a:=by
 have h:=Int.tmod_lt_of_pos a (b:=90000001) (by decide)
 have k:=Int.lt_tmod_of_pos a (b:=90000001) (by decide)
 have e:unA a=a.tmod 90000001:=qz (by omega) (by omega)
 refine ⟨by omega,by omega,?_⟩
 unfold unB
 rw [show wr (a.tmod 90000001)=a.tmod 90000001 from e,e,qz (by omega) (by omega)]
 omega
theorem Xg {c:Int} (h:-90000000<=c/\c<=90000000):r90 c=false:=by
 unfold r90
 rw [decide_eq_false (by omega),decide_eq_false (by omega)]; rfl
theorem Xh {c:Int} (h:-90000000<=c/\c<=90000000):iT c=false:=by
 unfold iT
 rw [decide_eq_false (by omega),decide_eq_false (by omega)]; rfl
theorem JY (ax n:Int):qa mf1 uM (abA af0 ax n)=0/\qa mf1 (mulV mf1 uM (abA af0 ax n)) (abA af0 ax (-n))=0/\unH (mulV mf1 (mulV mf1 uM (abA af0 ax n)) (abA af0 ax (-n))):=by
 obtain ⟨v1,v2⟩:=Ih (tF (a:=ax) (n:=n)) (by decide) (by decide)
 rw [v2]
 exact ⟨v1,(oM (M:=4294967299) (tF (a:=ax) (n:=n)) (tF (a:=ax) (n:=-n)) (by decide) (by decide) (by decide) (by decide) (by decide)).1,V9 ax n⟩
def SI:List Sh:=[.i .u8,.i .i32]
theorem NE:∀ xs,xs.map Nu.isN=Sh.kindsL SI->aA (Sh.leavesL SI) xs->KD Tryz.prog glob hG 3 (Sh.mkL SI xs).1:=by
 intro xs hk hr
 obtain ⟨x,_,rfl,h1⟩:=kn hk; obtain ⟨a,_,rfl,h2⟩:=kn h1; obtain rfl:=k0 h2
 have hr:IntKind.u8.has x/\IntKind.i32.has a/\True:=hr
 have hx:0<=x/\x<=255:=hr.1
 obtain ⟨a1,a2,eB⟩:=Z8 a
 have rA:=Xg ⟨a1,a2⟩
 have rB:=Xg (c:=-unA a) ⟨by omega,by omega⟩
 have sA:=Xh ⟨a1,a2⟩
 have sB:=Xh (c:=-unA a) ⟨by omega,by omega⟩
 have hm:x.tmod 3=0\/x.tmod 3=1\/x.tmod 3=2:=by
  have:=Int.tmod_lt_of_pos x (b:=3) (by decide)
  have:=Int.tmod_nonneg 3 hx.1
  omega
 have s0:iT 0=false:=rfl
 have z9:r9 0=false:=rfl
 have z90:r90 0=false:=rfl
 rcases hm with h|h|h
 .have r:=Wq unF x a
  rw [eB] at r
  obtain ⟨t1,t2,t3⟩:=JY 0 (unA a)
  have e1:unF.rv (unA a) 0 0=abA af0 0 (unA a):=by
   show kY _ _ _=_
   unfold kY iq
   rw [sA,s0]; exact (ni _).1
  have e2:unF.rv (-unA a) 0 0=abA af0 0 (-unA a):=by
   show kY _ _ _=_
   unfold kY iq
   rw [sB,s0]; exact (ni _).1
  have o1:unF.ro (unA a) 0 0=0:=by
   show kv _ _ _=_
   unfold kv iq
   rw [sA,s0]; rfl
  have o2:unF.ro (-unA a) 0 0=0:=by
   show kv _ _ _=_
   unfold kv iq
   rw [sB,s0]; rfl
  have g1:brG 0 0 0 (unA a) 0 0=false:=by unfold brG; rw [rA,z9,z90]; rfl
  have g2:brG 0 0 0 (-unA a) 0 0=false:=by unfold brG; rw [rB,z9,z90]; rfl
  rw [e1,e2] at r
  exact ⟨cUn unF 0,3000,_,_,_,JX 0,rfl,rfl,r,⟨⟨h,h⟩,⟨g1,g2⟩,⟨o1,t1⟩,o2,t2⟩,SH t3⟩
 .have r:=Ws unF x a
  rw [eB] at r
  obtain ⟨t1,t2,t3⟩:=JY 1 (unA a)
  have e1:unF.rv 0 (unA a) 0=abA af0 1 (unA a):=by
   show kY _ _ _=_
   unfold kY iq
   rw [sA,s0]; exact (ni _).2.1
  have e2:unF.rv 0 (-unA a) 0=abA af0 1 (-unA a):=by
   show kY _ _ _=_
   unfold kY iq
   rw [sB,s0]; exact (ni _).2.1
  have o1:unF.ro 0 (unA a) 0=0:=by
   show kv _ _ _=_
   unfold kv iq
   rw [sA,s0]; rfl
  have o2:unF.ro 0 (-unA a) 0=0:=by
   show kv _ _ _=_
   unfold kv iq
   rw [sB,s0]; rfl
  have g1:brG 0 0 0 0 (unA a) 0=false:=by unfold brG; rw [rA,z9,z90]; rfl
  have g2:brG 0 0 0 0 (-unA a) 0=false:=by unfold brG; rw [rB,z9,z90]; rfl
  rw [e1,e2] at r
  exact ⟨cUn unF 1,3000,_,_,_,JX 1,rfl,rfl,r,⟨⟨h,h⟩,⟨g1,g2⟩,⟨o1,t1⟩,o2,t2⟩,SH t3⟩
 .have r:=Wt unF x a
  rw [eB] at r
  obtain ⟨t1,t2,t3⟩:=JY 2 (unA a)
  have e1:unF.rv 0 0 (unA a)=abA af0 2 (unA a):=by
   show kY _ _ _=_
   unfold kY iq
   rw [sA,s0]; exact (ni _).2.2
  have e2:unF.rv 0 0 (-unA a)=abA af0 2 (-unA a):=by
   show kY _ _ _=_
   unfold kY iq
   rw [sB,s0]; exact (ni _).2.2
  have o1:unF.ro 0 0 (unA a)=0:=by
   show kv _ _ _=_
   unfold kv iq
   rw [sA,s0]; rfl
  have o2:unF.ro 0 0 (-unA a)=0:=by
   show kv _ _ _=_
   unfold kv iq
   rw [sB,s0]; rfl
  have g1:brG 0 0 0 0 0 (unA a)=false:=by unfold brG; rw [rA,z9,z90]; rfl
  have g2:brG 0 0 0 0 0 (-unA a)=false:=by unfold brG; rw [rB,z9,z90]; rfl
  rw [e1,e2] at r
  exact ⟨cUn unF 2,3000,_,_,_,JX 2,rfl,rfl,r,⟨⟨h,h⟩,⟨g1,g2⟩,⟨o1,t1⟩,o2,t2⟩,SH t3⟩
end
end Go.Proofs.YtbhibbcjfgnmhaaGreatDoor.K
