/- What is proved: TurnProducts returns true, whatever the input (part 17). No conditions beyond those of the row. -/
import Derived.Test.YtmnhhlnbfkfkaaaGreatPP
set_option linter.unusedVariables false
set_option linter.unusedSimpArgs false
set_option linter.unusedSectionVars false
namespace Go.Proofs.YtmnhhlnbfkfkaaaGreat.K
open Go Go.Eng Go.Dg Go.Ar Go.Vc Go.Sn
noncomputable section
def veE (v w:Ve):Bool:=(v.a==w.a&&(v.b==w.b&&(v.c==w.c&&(v.d==w.d&&(v.e==w.e&&(v.f==w.f&&true))))))
def mtE (m n:Mat):Bool:=(m.x.a==n.x.a&&(m.x.b==n.x.b&&(m.x.c==n.x.c&&(m.x.d==n.x.d&&(m.x.e==n.x.e&&(m.x.f==n.x.f&&(m.y.a==n.y.a&&(m.y.b==n.y.b&&(m.y.c==n.y.c&&(m.y.d==n.y.d&&(m.y.e==n.y.e&&(m.y.f==n.y.f&&(m.z.a==n.z.a&&(m.z.b==n.z.b&&(m.z.c==n.z.c&&(m.z.d==n.z.d&&(m.z.e==n.z.e&&(m.z.f==n.z.f&&true))))))))))))))))))
theorem Tu (v:Ve):veE v v=true:=by unfold veE; simp
theorem abo (m:Mat):mtE m m=true:=by unfold mtE; simp
def tpC (F:PdF) (M B:Mat):Bool:=bif F.ck M != F.ck M then true else bif !mtE (F.mv M B) (F.mv M B) then true else F.mo M B != F.mo M B
theorem Nq (F:PdF) (M B:Mat):tpC F M B=false:=by unfold tpC; rw [abo]; simp
def tpT (F:PdF) (M:Mat) (v:Ve):Prop:=((!veE (F.tv M v) (F.tv M v))=true->true=false)/\((!veE (F.tv M v) (F.tv M v))=false->((F.te M v != F.te M v)=true->true=false)/\((F.te M v != F.te M v)=false->((!veE (F.bv M v) (F.bv M v))=true->true=false)/\((!veE (F.bv M v) (F.bv M v))=false->(F.be M v != F.be M v)=false)))
theorem Tv (F:PdF) (M:Mat) (v:Ve):tpT F M v:=⟨fun h=>(by rw [Tu] at h; cases h),fun _=>⟨fun h=>(by simp at h),fun _=>⟨fun h=>(by rw [Tu] at h; cases h),fun _=>(by simp)⟩⟩⟩
def tpG (F:PdF) (M B:Mat) (V W:Ve):Prop:=(!tpC F M B)=true->veP V/\tpT F M V/\tpT F M W
def tpR (F:PdF) (x y z:Int) (b:Bool):Mat:=F.rv (x.tmod (drM b)) (y.tmod (drM b)) (z.tmod (drM b))
def tpW (F:PdF) (a b c d e f g h i:Int):Ve:=⟨F.sl a b,F.sh a b c,F.sl d e,F.sh d e f,F.sl g h,F.sh g h i⟩
theorem veP_t (v:Ve):veP v:=⟨rfl,rfl,rfl,rfl,rfl,rfl⟩
theorem Nr (F:PdF) (M B:Mat) (V W:Ve):tpG F M B V W:=fun _=>⟨veP_t V,Tv F M V,Tv F M W⟩
def tpN (F:PdF) (A B:Mat) (V W:Ve) (x y z p q r:Int) (R1 R2 R3:Mat):Prop:=
 ((maP B/\(x=x/\y=y/\z=z)/\(p=p/\q=q/\r=r)/\maP B/\maP A)/\(maP B/\(x=x/\y=y/\z=z)/\maP B/\maP A)/\maP B/\maP B/\maP A)/\(maP A/\tpG F A B V W)/\((!tpC F A B)=true->(maP R1/\tpG F R1 R2 V W)/\((!tpC F R1 R2)=true->maP R3/\tpG F R3 B V W))
def tpB (F:PdF) (A B R1 R2 R3:Mat):Bool:=bif (!tpC F A B)&&((!tpC F R1 R2)&&!tpC F R3 B) then true else false
def tpA (A B:Mat) (V:Ve) (x y z p q r a b c d e f g h i:Int):List AV:=A.cells++(B.cells++(V.cells++(i3 x y z++(i3 p q r++[.int true .i64 a,.int true .u8 b,.int true .u32 c,.int true .i64 d,.int true .u8 e,.int true .u32 f,.int true .i64 g,.int true .u8 h,.int true .u32 i]))))
theorem X0 (F:PdF) (A B:Mat) (V:Ve) (x y z p q r a b c d e f g h i:Int):IQ hG0.size hG0.clock ((run (cPd F) 3000).call 5 [.agg (tpA A B V x y z p q r a b c d e f g h i)] hG0)=some (.p (tpN F A B V (tpW F a b c d e f g h i) x y z p q r (tpR F x y z false) (tpR F p q r true) (tpR F x y z true)),.bool true (tpB F A B (tpR F x y z false) (tpR F p q r true) (tpR F x y z true))):=by kernel_rfl
theorem abp (F:PdF) (A B R1 R2 R3:Mat):tpB F A B R1 R2 R3=true:=by unfold tpB; rw [Nq,Nq,Nq]; rfl
theorem abq (F:PdF) (A B:Mat) (V W:Ve) (x y z p q r:Int) (R1 R2 R3:Mat):tpN F A B V W x y z p q r R1 R2 R3:=
 ⟨⟨⟨fR _,⟨rfl,rfl,rfl⟩,⟨rfl,rfl,rfl⟩,fR _,fR _⟩,⟨fR _,⟨rfl,rfl,rfl⟩,fR _,fR _⟩,fR _,fR _,fR _⟩,⟨fR _,Nr _ _ _ _ _⟩,fun _=>⟨⟨fR _,Nr _ _ _ _ _⟩,fun _=>⟨fR _,Nr _ _ _ _ _⟩⟩⟩
def Ns:List Sh:=[.a [.i .i64,.i .i64,.i .i64,.i .i64,.i .i64,.i .i64,.i .i64,.i .i64,.i .i64,.i .i64,.i .i64,.i .i64,.i .i64,.i .i64,.i .i64,.i .i64,.i .i64,.i .i64,.i .i64,.i .i64,.i .i64,.i .i64,.i .i64,.i .i64,.i .i64,.i .i64,.i .i64,.i .i64,.i .i64,.i .i64,.i .i64,.i .i64,.i .i64,.i .i64,.i .i64,.i .i64,.i .i64,.i .i64,.i .i64,.i .i64,.i .i64,.i .i64,.i .i64,.i .i64,.i .i64,.i .i64,.i .i64,.i .i64,.i .i64,.i .u8,.i .u32,.i .i64,.i .u8,.i .u32,.i .i64,.i .u8,.i .u32]]
theorem vl:∀ xs,xs.map Nu.isN=Sh.kindsL Ns->aN (Sh.leavesL Ns) xs->Ev Tryz.prog (fun _=>none) hG0 5 (Sh.mkL Ns xs).1:=by
 intro xs hk _
 obtain ⟨a1,_,rfl,h1⟩:=k6 hk; obtain ⟨a2,_,rfl,h2⟩:=k6 h1; obtain ⟨a3,_,rfl,h3⟩:=k6 h2
 obtain ⟨b1,_,rfl,h4⟩:=k6 h3; obtain ⟨b2,_,rfl,h5⟩:=k6 h4; obtain ⟨b3,_,rfl,h6⟩:=k6 h5
 obtain ⟨v,_,rfl,h7⟩:=k6 h6; obtain ⟨u,_,rfl,h8⟩:=k6 h7
 obtain ⟨a,_,rfl,g1⟩:=kn h8; obtain ⟨b,_,rfl,g2⟩:=kn g1; obtain ⟨c,_,rfl,g3⟩:=kn g2
 obtain ⟨d,_,rfl,g4⟩:=kn g3; obtain ⟨e,_,rfl,g5⟩:=kn g4; obtain ⟨f,_,rfl,g6⟩:=kn g5
 obtain ⟨g,_,rfl,g7⟩:=kn g6; obtain ⟨h,_,rfl,g8⟩:=kn g7; obtain ⟨i,_,rfl,g9⟩:=kn g8; obtain rfl:=k0 g9
 have r:=X0 pdF ⟨a1,a2,a3⟩ ⟨b1,b2,b3⟩ v u.a u.b u.c u.d u.e u.f a b c d e f g h i
 rw [abp] at r
 exact ⟨cPd pdF,3000,_,_,_,XZ,rfl,rfl,r,abq _ _ _ _ _ _ _ _ _ _ _ _ _ _,rfl⟩
end
end Go.Proofs.YtmnhhlnbfkfkaaaGreat.K
