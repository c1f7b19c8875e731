/- What is proved: TurnRotations returns true, whatever the input (part 17). No conditions beyond those of the row. -/
import Derived.Test.YtmnhhlnbfkfkaaaGreatPP
set_option linter.unusedVariables false
set_option linter.unusedSimpArgs false
set_option linter.unusedSectionVars false
namespace Go.Proofs.YtmnhhlnbfkfkaaaGreat.K
open Go Go.Eng Go.Dg Go.Ar Go.Vc Go.Sn
noncomputable section
def maE (m n:Mat):Bool:=(m.x.a==n.x.a&&(m.x.b==n.x.b&&(m.x.c==n.x.c&&(m.x.d==n.x.d&&(m.x.e==n.x.e&&(m.x.f==n.x.f&&(m.y.a==n.y.a&&(m.y.b==n.y.b&&(m.y.c==n.y.c&&(m.y.d==n.y.d&&(m.y.e==n.y.e&&(m.y.f==n.y.f&&(m.z.a==n.z.a&&(m.z.b==n.z.b&&(m.z.c==n.z.c&&(m.z.d==n.z.d&&(m.z.e==n.z.e&&(m.z.f==n.z.f&&true))))))))))))))))))
theorem S9 (m:Mat):maE m m=true:=by unfold maE; simp
def qI (p:Int):Int:=IntKind.i64.wrap (IntKind.i64.wrap (p.tmod 6)*90000000)
def aa0 (M:Mat) (o:Int):Prop:=((!maE M M)=true->true=false)/\((!maE M M)=false->(o != o)=false)
def aa1 (M:Mat) (o:Int):Prop:=(maE M M=true->(o==o)=true)/\(maE M M=false->false=true)
theorem XB (M:Mat) (o:Int):aa0 M o:=⟨fun h=>(by rw [S9] at h; cases h),fun _=>(by simp)⟩
theorem XC (M:Mat) (o:Int):aa1 M o:=⟨fun _=>(by simp),fun h=>(by rw [S9] at h; cases h)⟩
def i83 (p q r:Int):List AV:=[.int true .i8 p,.int true .i8 q,.int true .i8 r]
theorem XD (V:Int->Int->Int->Mat) (O:Int->Int->Int->Int) (x y z p q r:Int):Iz hG0.size hG0.clock ((run (cTR V O) 3000).call 4 [.agg (i3 x y z),.agg (i83 p q r)] hG0)=some (.p (aa0 (V x y z) (O x y z)/\aa1 (V (qI p) (qI q) (qI r)) (O (qI p) (qI q) (qI r))),.bool false true):=by kernel_rfl
def Nc:List Sh:=[acz,.a [.i .i8,.i .i8,.i .i8]]
theorem uY:∀ xs,xs.map Nu.isN=Sh.kindsL Nc->aM (Sh.leavesL Nc) xs->Eg Tryz.prog (fun _=>none) hG0 4 (Sh.mkL Nc xs).1:=by
 intro xs hk _
 obtain ⟨x,_,rfl,h1⟩:=kn hk; obtain ⟨y,_,rfl,h2⟩:=kn h1; obtain ⟨z,_,rfl,h3⟩:=kn h2
 obtain ⟨p,_,rfl,h4⟩:=kn h3; obtain ⟨q,_,rfl,h5⟩:=kn h4; obtain ⟨r,_,rfl,h6⟩:=kn h5; obtain rfl:=k0 h6
 exact ⟨cTR kx ky,3000,_,_,_,XA,rfl,rfl,XD kx ky x y z p q r,⟨XB _ _,XC _ _⟩,rfl⟩
end
end Go.Proofs.YtmnhhlnbfkfkaaaGreat.K
