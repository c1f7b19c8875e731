/- What is proved: MtfMoves returns true, whatever the input (part 10). No conditions beyond those of the row. -/
import Derived.Test.YtbiiiloimbjpaaaDoorPI
import Derived.KernelRfl
set_option linter.unusedVariables false
set_option linter.unusedSimpArgs false
set_option linter.unusedSectionVars false
namespace Go.Proofs.YtbiiiloimbjpaaaDoor.K
open Go Go.Eng Go.Dg
noncomputable section
def Vx (x:Int) (one:List Int):Prop:=(((↑one.length:Int)=(↑one.length:Int)/\Dig one/\Dig [x]/\one.length + [x].length<=(500000:Nat))/\At (Gx) (Gx) (arA) (arA) (arS x one) (arS x one))
def YS (x:Int) (one:List Int):AV:=(AV.lslice 1 (↑(aa (arR x one none).toNat).length:Int))
def YT (x:Int) (one:List Int):Hp:=⟨[{ wr:=15,body:=ABody.rows IntKind.i64 (aa (arR x one none).toNat) },{ wr:=(0:Nat),body:=ABody.rows IntKind.i64 one }],2,16⟩
theorem ael (x:Int) (one:List Int):(run (YR x one) 300).call 85 (IV x one) (zH one)=some ⟨.p (Vx x one),[⟨.tt,YS x one,YT x one⟩]⟩:=by kernel_rfl
def YU:List Nu->List (List Int)->Option (Prop×To)
 | [.n x],[one]=>some (ArD x one,.li false (aa (dz x 200 1 (val one*x) 0).toNat))
 | _,_=>none
theorem YV:NOk Tryd.prog (fun _=>none) hG0 85 (eO hG0 .i64 [.nu (.i .i64),.li] YU):=by
 refine fG (fun xs ys p t e h=>?_) ⟨_,Tryd.func85,rfl⟩
 unfold YU at e
 split at e
 .rename_i x one
  cases e
  have hl:=h.l
  have x0:=h.x0
  have x1:=h.x1
  refine ⟨YR x one,300,IV x one,_,_,_,_,_,Vw h,rfl,rfl,⟨⟨rfl,rfl⟩,rfl,trivial⟩,ael x one,rfl,⟨⟨rfl,h.d,uD (by omega) (by omega),by show _+1<=_; omega⟩,⟨rfl,rfl,rfl⟩⟩,rfl,rfl,?_⟩
  exact ⟨rfl,rfl⟩
 .cases e
def tZ3:List (FuncId×fO):=(85,eO hG0 .i64 [.nu (.i .i64),.li] YU) :: (77,eO hG0 .i64 [.li,.nu (.i .i64)] YQ) :: tZ2
theorem PL:∀ x∈tZ3,NOk Tryd.prog (fun _=>none) hG0 x.1 x.2:=by
 intro x hx
 rcases List.mem_cons.1 hx with rfl|hx
 .exact YV
 rcases List.mem_cons.1 hx with rfl|hx
 .exact Vr
 exact YM x hx
noncomputable def cZ3:Ctx:=mkN Tryd.prog (fun _=>none) hG0 tZ3 [] kV
theorem YW:CtxOk cZ3:=oO prog_ok (oL _) PL (fun x h=>by cases h)
def zQ (one:List Int):Prop:=(((↑one.length:Int)=(↑one.length:Int)/\ArD (5:Int) one)/\((↑(aa (dz (5:Int) (200:Nat) (1:Int) (val one*5) (0:Int)).toNat).length:Int)=(↑(aa (dz (5:Int) (200:Nat) (1:Int) (val one*5) (0:Int)).toNat).length:Int)/\Dig (aa (dz (5:Int) (200:Nat) (1:Int) (val one*5) (0:Int)).toNat)/\Dig [(8:Int)]/\(aa (dz (5:Int) (200:Nat) (1:Int) (val one*5) (0:Int)).toNat).length + [(8:Int)].length<=(500000:Nat))/\((↑one.length:Int)=(↑one.length:Int)/\ArD (239:Int) one)/\((↑(aa (dz (239:Int) (200:Nat) (1:Int) (val one*239) (0:Int)).toNat).length:Int)=(↑(aa (dz (239:Int) (200:Nat) (1:Int) (val one*239) (0:Int)).toNat).length:Int)/\Dig (aa (dz (239:Int) (200:Nat) (1:Int) (val one*239) (0:Int)).toNat)/\Dig [(2:Int)]/\(aa (dz (239:Int) (200:Nat) (1:Int) (val one*239) (0:Int)).toNat).length + [(2:Int)].length<=(500000:Nat))/\((↑(aa (val (aa (dz (5:Int) (200:Nat) (1:Int) (val one*5) (0:Int)).toNat)*val [(8:Int)]).toNat).length:Int)=(↑(aa (val (aa (dz (5:Int) (200:Nat) (1:Int) (val one*5) (0:Int)).toNat)*val [(8:Int)]).toNat).length:Int)/\(↑(aa (val (aa (dz (239:Int) (200:Nat) (1:Int) (val one*239) (0:Int)).toNat)*val [(2:Int)]).toNat).length:Int)=(↑(aa (val (aa (dz (239:Int) (200:Nat) (1:Int) (val one*239) (0:Int)).toNat)*val [(2:Int)]).toNat).length:Int))/\Dig (aa (val (aa (dz (5:Int) (200:Nat) (1:Int) (val one*5) (0:Int)).toNat)*val [(8:Int)]).toNat)/\Dig (aa (val (aa (dz (239:Int) (200:Nat) (1:Int) (val one*239) (0:Int)).toNat)*val [(2:Int)]).toNat)/\(0:Nat)<(aa (val (aa (dz (5:Int) (200:Nat) (1:Int) (val one*5) (0:Int)).toNat)*val [(8:Int)]).toNat).length/\(aa (val (aa (dz (5:Int) (200:Nat) (1:Int) (val one*5) (0:Int)).toNat)*val [(8:Int)]).toNat).length<=(500000:Nat)/\(aa (val (aa (dz (239:Int) (200:Nat) (1:Int) (val one*239) (0:Int)).toNat)*val [(2:Int)]).toNat).length<=(aa (val (aa (dz (5:Int) (200:Nat) (1:Int) (val one*5) (0:Int)).toNat)*val [(8:Int)]).toNat).length/\val (aa (val (aa (dz (239:Int) (200:Nat) (1:Int) (val one*239) (0:Int)).toNat)*val [(2:Int)]).toNat)<=val (aa (val (aa (dz (5:Int) (200:Nat) (1:Int) (val one*5) (0:Int)).toNat)*val [(8:Int)]).toNat))
def LQ (one:List Int):AV:=(AV.lslice 1 (↑(aa (val (aa (val (aa (dz (5:Int) (200:Nat) (1:Int) (val one*5) (0:Int)).toNat)*val [(8:Int)]).toNat) - val (aa (val (aa (dz (239:Int) (200:Nat) (1:Int) (val one*239) (0:Int)).toNat)*val [(2:Int)]).toNat)).toNat).length:Int))
def LU (one:List Int):Hp:=⟨[{ wr:=12,body:=ABody.rows IntKind.i64 (aa (val (aa (val (aa (dz (5:Int) (200:Nat) (1:Int) (val one*5) (0:Int)).toNat)*val [(8:Int)]).toNat) - val (aa (val (aa (dz (239:Int) (200:Nat) (1:Int) (val one*239) (0:Int)).toNat)*val [(2:Int)]).toNat)).toNat) },{ wr:=(0:Nat),body:=ABody.rows IntKind.i64 one }],2,13⟩
theorem Vy (one:List Int):(run cZ3 300).call 71 [.lslice 0 one.length] (zH one)=some ⟨.p (zQ one),[⟨.tt,LQ one,LU one⟩]⟩:=by kernel_rfl
def RGT:Int:=1570796326794896619231321691639751442098584716
def YX:List Nu->List (List Int)->Option (Prop×To)
 | [],[one]=>some (Dig one/\one.length<=100/\val one=PP,.li false (aa RGT.toNat))
 | _,_=>none
theorem acl:dz 5 200 1 (PP*5) 0=197395559849880758370049765194790293447585106:=by kernel_rfl
theorem Vz:dz 239 200 1 (PP*239) 0=4184076002074723864538214959285452741048066:=by kernel_rfl
theorem YY:NOk Tryd.prog (fun _=>none) hG0 71 (eO hG0 .i64 [.li] YX):=by
 refine fG (fun xs ys p t e h=>?_) ⟨_,Tryd.func71,rfl⟩
 unfold YX at e
 split at e
 .rename_i one
  cases e
  obtain ⟨hd,hl,hv⟩:=h
  have d5:ArD 5 one:=⟨hd,hl,by omega,by decide,by decide,by unfold arQ; rw [hv]; decide⟩
  have d239:ArD 239 one:=⟨hd,hl,by omega,by decide,by decide,by unfold arQ; rw [hv]; decide⟩
  have e5:dz 5 200 1 (val one*5) 0=197395559849880758370049765194790293447585106:=by rw [hv]; exact acl
  have e239:dz 239 200 1 (val one*239) 0=4184076002074723864538214959285452741048066:=by rw [hv]; exact Vz
  have v5:val (aa (Int.toNat 197395559849880758370049765194790293447585106))=197395559849880758370049765194790293447585106:=dv (by decide)
  have v239:val (aa (Int.toNat 4184076002074723864538214959285452741048066))=4184076002074723864538214959285452741048066:=dv (by decide)
  have e8:val [8]=8:=uC 8
  have e2:val [2]=2:=uC 2
  have l5:(aa (Int.toNat 197395559849880758370049765194790293447585106)).length<=6:=jH (a:=197395559849880758370049765194790293447585106) (by decide) (by decide)
  have l239:(aa (Int.toNat 4184076002074723864538214959285452741048066)).length<=6:=jH (a:=4184076002074723864538214959285452741048066) (by decide) (by decide)
  have la:(aa (Int.toNat (197395559849880758370049765194790293447585106*8))).length<=6:=jH (a:=197395559849880758370049765194790293447585106*8) (by decide) (by decide)
  have lb:(aa (Int.toNat (4184076002074723864538214959285452741048066*2))).length<=(aa (Int.toNat (197395559849880758370049765194790293447585106*8))).length:=YH (a:=4184076002074723864538214959285452741048066*2) (b:=197395559849880758370049765194790293447585106*8) (by decide) (by decide)
  have l0:0<(aa (Int.toNat (197395559849880758370049765194790293447585106*8))).length:=Gv (a:=197395559849880758370049765194790293447585106*8) (by decide)
  have va:val (aa (Int.toNat (197395559849880758370049765194790293447585106*8)))=197395559849880758370049765194790293447585106*8:=dv (by decide)
  have vb:val (aa (Int.toNat (4184076002074723864538214959285452741048066*2)))=4184076002074723864538214959285452741048066*2:=dv (by decide)
  refine ⟨cZ3,300,[.lslice 0 one.length],_,_,_,_,_,YW,rfl,rfl,⟨rfl,trivial⟩,Vy one,rfl,?_,rfl,rfl,?_⟩
  .unfold zQ
   rw [e5,e239,v5,v239,e8,e2,va,vb]
   refine ⟨⟨rfl,d5⟩,⟨rfl,aI _,uD (by decide) (by decide),by show _+1<=_; omega⟩,⟨rfl,d239⟩,⟨rfl,aI _,uD (by decide) (by decide),by show _+1<=_; omega⟩,⟨rfl,rfl⟩,aI _,aI _,l0,by omega,lb,by decide⟩
  .refine ⟨rfl,?_⟩
   show aa (val (aa (val (aa (dz 5 200 1 (val one*5) 0).toNat)*val [8]).toNat) - val (aa (val (aa (dz 239 200 1 (val one*239) 0).toNat)*val [2]).toNat)).toNat=_
   rw [e5,e239,v5,v239,e8,e2,va,vb]
   rfl
 .cases e
noncomputable def cOv:Ctx:=cZb [(18,false),(24,true)]
theorem YZ:CtxOk cOv:=IR _
def VA (a b:List Int):Prop:=(((((↑a.length:Int)=(↑a.length:Int)/\(↑b.length:Int)=(↑b.length:Int))/\Sm a/\Sm b)/\decide (nQ a b<0)=false)/\((↑b.length:Int)==1)=true/\((0:Int)<=0/\(0:Int)<(↑b.length:Int))/\Int.toNat (0:Int)<b.length/\(↑a.length:Int)=(↑a.length:Int)/\Dig a/\a.length<=(500000:Nat)/\(1:Int)<=b.getD (Int.toNat (0:Int)) (0:Int)/\b.getD (Int.toNat (0:Int)) (0:Int)<=1000000000)
def Y0 (a b:List Int):AV:=(AV.tuple [AV.lslice 2 (↑(aa (val a / b.getD (Int.toNat (0:Int)) (0:Int)).toNat).length:Int),AV.any true])
def Y3 (a b:List Int):Hp:=⟨[{ wr:=21,body:=ABody.rows IntKind.i64 (aa (val a / b.getD (Int.toNat (0:Int)) (0:Int)).toNat) },{ wr:=(0:Nat),body:=ABody.rows IntKind.i64 b },{ wr:=(0:Nat),body:=ABody.rows IntKind.i64 a }],3,69⟩
theorem aem (a b:List Int):(run cOv 300).call 74 (zB a b) (zG a b)=some ⟨.p (VA a b),[⟨.tt,Y0 a b,Y3 a b⟩]⟩:=by kernel_rfl
theorem PM {b:List Int} (h:b.length=1):val b=b.getD 0 0:=by
 match b,h with
 | [x],_=>simp [val]
def PN:List (Nat×Nat×Nat×AV)->Nat->Nat->Option AV
 | [],_,_=>none
 | (a,b,t',v) :: l,c,t=>match Nat.beq t t'&&Nat.ble a c&&Nat.ble c b with
  | true=>some v
  | false=>PN l c t
def oA1:List Int:=[394338864,559005768,925286766,179586476,283185307,6]
def oB1:List Int:=[294967296,4]
def oH1:List (Nat×Nat×Nat×AV):=[(0,10,17,.int false .i64 2),(11,31,18,.bool false false),(20,31,43,.int false .i64 4),(32,194,11,.int false .i64 6),(195,264,11,.int false .i64 2),(32,194,15,.int false .i64 6),(195,264,15,.int false .i64 2),(32,194,36,.int false .i64 6),(195,264,36,.int false .i64 2),(42,65,20,.int false .i64 394338864),(66,89,20,.int false .i64 559005768),(90,113,20,.int false .i64 925286766),(114,137,20,.int false .i64 179586476),(138,161,20,.int false .i64 283185307),(162,185,20,.int false .i64 6),(206,229,20,.int false .i64 294967296),(230,253,20,.int false .i64 4),(265,294,55,.int false .i64 6)]
noncomputable def cO1:Ctx:=gG cZ (PN oH1)
theorem Y4:CtxOk cO1:=dh aK _
def oA2:List Int:=[711109072,823253194,522842290,119904847,977824172,746518845,6]
def oB2:List Int:=[294967296,4]
def oH2:List (Nat×Nat×Nat×AV):=[(0,10,17,.int false .i64 2),(11,31,18,.bool false false),(20,31,43,.int false .i64 4),(32,218,11,.int false .i64 7),(219,288,11,.int false .i64 2),(32,218,15,.int false .i64 7),(219,288,15,.int false .i64 2),(32,218,36,.int false .i64 7),(219,288,36,.int false .i64 2),(42,65,20,.int false .i64 711109072),(66,89,20,.int false .i64 823253194),(90,113,20,.int false .i64 522842290),(114,137,20,.int false .i64 119904847),(138,161,20,.int false .i64 977824172),(162,185,20,.int false .i64 746518845),(186,209,20,.int false .i64 6),(230,253,20,.int false .i64 294967296),(254,277,20,.int false .i64 4),(289,318,55,.int false .i64 7)]
noncomputable def cO2:Ctx:=gG cZ (PN oH2)
theorem Y5:CtxOk cO2:=dh aK _
def oA3:List Int:=[552723968,691129481,224064528,649745662,130504739,373259426,3]
def oB3:List Int:=[221225472,3]
def oH3:List (Nat×Nat×Nat×AV):=[(0,10,17,.int false .i64 2),(11,31,18,.bool false false),(20,31,43,.int false .i64 3),(32,218,11,.int false .i64 7),(219,288,11,.int false .i64 2),(32,218,15,.int false .i64 7),(219,288,15,.int false .i64 2),(32,218,36,.int false .i64 7),(219,288,36,.int false .i64 2),(42,65,20,.int false .i64 552723968),(66,89,20,.int false .i64 691129481),(90,113,20,.int false .i64 224064528),(114,137,20,.int false .i64 649745662),(138,161,20,.int false .i64 130504739),(162,185,20,.int false .i64 373259426),(186,209,20,.int false .i64 3),(230,253,20,.int false .i64 221225472),(254,277,20,.int false .i64 3),(289,318,55,.int false .i64 7)]
noncomputable def cO3:Ctx:=gG cZ (PN oH3)
theorem Y6:CtxOk cO3:=dh aK _
def DI (z:Int):Prop:=((↑oB1.length:Int)=2/\((((↑oA1.length:Int)=(↑oA1.length:Int)/\(↑oB1.length:Int)=(↑oB1.length:Int))/\Sm oA1/\Sm oB1)/\decide (nQ oA1 oB1<0)=false)/\(((0:Int)<=Int.ofNat 1/\Int.ofNat 1<(↑oB1.length:Int))/\(Int.ofNat 1).toNat<oB1.length/\oB1.getD (Int.ofNat 1).toNat (0:Int)=4)/\(((↑oA1.length:Int)=6/\((↑oA1.length:Int)=6/\(((0:Int)<=0/\(0:Int)<(↑oA1.length:Int))/\Int.toNat (0:Int)<oA1.length/\oA1.getD (Int.toNat (0:Int)) (0:Int)=394338864)/\(((0:Int)<=Int.ofNat 1/\Int.ofNat 1<(↑oA1.length:Int))/\(Int.ofNat 1).toNat<oA1.length/\oA1.getD (Int.ofNat 1).toNat (0:Int)=559005768)/\(((0:Int)<=Int.ofNat 2/\Int.ofNat 2<(↑oA1.length:Int))/\(Int.ofNat 2).toNat<oA1.length/\oA1.getD (Int.ofNat 2).toNat (0:Int)=925286766)/\(((0:Int)<=Int.ofNat 3/\Int.ofNat 3<(↑oA1.length:Int))/\(Int.ofNat 3).toNat<oA1.length/\oA1.getD (Int.ofNat 3).toNat (0:Int)=179586476)/\(((0:Int)<=Int.ofNat 4/\Int.ofNat 4<(↑oA1.length:Int))/\(Int.ofNat 4).toNat<oA1.length/\oA1.getD (Int.ofNat 4).toNat (0:Int)=283185307)/\((0:Int)<=Int.ofNat 5/\Int.ofNat 5<(↑oA1.length:Int))/\(Int.ofNat 5).toNat<oA1.length/\oA1.getD (Int.ofNat 5).toNat (0:Int)=6)/\(↑oA1.length:Int)=6)/\(↑oB1.length:Int)=2/\((↑oB1.length:Int)=2/\(((0:Int)<=0/\(0:Int)<(↑oB1.length:Int))/\Int.toNat (0:Int)<oB1.length/\oB1.getD (Int.toNat (0:Int)) (0:Int)=294967296)/\((0:Int)<=Int.ofNat 1/\Int.ofNat 1<(↑oB1.length:Int))/\(Int.ofNat 1).toNat<oB1.length/\oB1.getD (Int.ofNat 1).toNat (0:Int)=4)/\(↑oB1.length:Int)=2)/\(↑oA1.length:Int)=6/\Dig [Int.ofNat 400000000,Int.ofNat 45323990]/\[Int.ofNat 400000000,Int.ofNat 45323990].length<=(500000:Nat)/\(1:Int)<=Int.ofNat 200000000/\Int.ofNat 200000000<=1000000000)
def Y7 (z:Int):AV:=(AV.tuple [AV.slice 2 (0:Nat) 5 5,AV.lslice 3 (↑(aa (val [Int.ofNat 400000000,Int.ofNat 45323990] / Int.ofNat 200000000).toNat).length:Int)])
def Y8 (z:Int):Hp:=⟨[{ wr:=1190,body:=ABody.rows IntKind.i64 (aa (val [Int.ofNat 400000000,Int.ofNat 45323990] / Int.ofNat 200000000).toNat) },{ wr:=1162,body:=ABody.cells [AV.int false IntKind.i64 (Int.ofNat 309792297),AV.int false IntKind.i64 (Int.ofNat 51337804),AV.int false IntKind.i64 (Int.ofNat 267159681),AV.int false IntKind.i64 (Int.ofNat 462918079),AV.int false IntKind.i64 (Int.ofNat 1)] },{ wr:=(0:Nat),body:=ABody.rows IntKind.i64 [(294967296:Int),(4:Int)] },{ wr:=(0:Nat),body:=ABody.rows IntKind.i64 [(394338864:Int),(559005768:Int),(925286766:Int),(179586476:Int),(283185307:Int),(6:Int)] }],4,1216⟩
theorem aen (z:Int):(run cO1 300).call 74 (zB oA1 oB1) (zG oA1 oB1)=some ⟨.p (DI z),[⟨.tt,Y7 z,Y8 z⟩]⟩:=by kernel_rfl
def DJ (z:Int):Prop:=((↑oB2.length:Int)=2/\((((↑oA2.length:Int)=(↑oA2.length:Int)/\(↑oB2.length:Int)=(↑oB2.length:Int))/\Sm oA2/\Sm oB2)/\decide (nQ oA2 oB2<0)=false)/\(((0:Int)<=Int.ofNat 1/\Int.ofNat 1<(↑oB2.length:Int))/\(Int.ofNat 1).toNat<oB2.length/\oB2.getD (Int.ofNat 1).toNat (0:Int)=4)/\(((↑oA2.length:Int)=7/\((↑oA2.length:Int)=7/\(((0:Int)<=0/\(0:Int)<(↑oA2.length:Int))/\Int.toNat (0:Int)<oA2.length/\oA2.getD (Int.toNat (0:Int)) (0:Int)=711109072)/\(((0:Int)<=Int.ofNat 1/\Int.ofNat 1<(↑oA2.length:Int))/\(Int.ofNat 1).toNat<oA2.length/\oA2.getD (Int.ofNat 1).toNat (0:Int)=823253194)/\(((0:Int)<=Int.ofNat 2/\Int.ofNat 2<(↑oA2.length:Int))/\(Int.ofNat 2).toNat<oA2.length/\oA2.getD (Int.ofNat 2).toNat (0:Int)=522842290)/\(((0:Int)<=Int.ofNat 3/\Int.ofNat 3<(↑oA2.length:Int))/\(Int.ofNat 3).toNat<oA2.length/\oA2.getD (Int.ofNat 3).toNat (0:Int)=119904847)/\(((0:Int)<=Int.ofNat 4/\Int.ofNat 4<(↑oA2.length:Int))/\(Int.ofNat 4).toNat<oA2.length/\oA2.getD (Int.ofNat 4).toNat (0:Int)=977824172)/\(((0:Int)<=Int.ofNat 5/\Int.ofNat 5<(↑oA2.length:Int))/\(Int.ofNat 5).toNat<oA2.length/\oA2.getD (Int.ofNat 5).toNat (0:Int)=746518845)/\((0:Int)<=Int.ofNat 6/\Int.ofNat 6<(↑oA2.length:Int))/\(Int.ofNat 6).toNat<oA2.length/\oA2.getD (Int.ofNat 6).toNat (0:Int)=6)/\(↑oA2.length:Int)=7)/\(↑oB2.length:Int)=2/\((↑oB2.length:Int)=2/\(((0:Int)<=0/\(0:Int)<(↑oB2.length:Int))/\Int.toNat (0:Int)<oB2.length/\oB2.getD (Int.toNat (0:Int)) (0:Int)=294967296)/\((0:Int)<=Int.ofNat 1/\Int.ofNat 1<(↑oB2.length:Int))/\(Int.ofNat 1).toNat<oB2.length/\oB2.getD (Int.ofNat 1).toNat (0:Int)=4)/\(↑oB2.length:Int)=2)/\(↑oA2.length:Int)=7/\Dig [Int.ofNat 800000000,Int.ofNat 813669468]/\[Int.ofNat 800000000,Int.ofNat 813669468].length<=(500000:Nat)/\(1:Int)<=Int.ofNat 200000000/\Int.ofNat 200000000<=1000000000)
def Y9 (z:Int):AV:=(AV.tuple [AV.slice 2 (0:Nat) 6 6,AV.lslice 3 (↑(aa (val [Int.ofNat 800000000,Int.ofNat 813669468] / Int.ofNat 200000000).toNat).length:Int)])
def Za (z:Int):Hp:=⟨[{ wr:=1469,body:=ABody.rows IntKind.i64 (aa (val [Int.ofNat 800000000,Int.ofNat 813669468] / Int.ofNat 200000000).toNat) },{ wr:=1441,body:=ABody.cells [AV.int false IntKind.i64 (Int.ofNat 788792418),AV.int false IntKind.i64 (Int.ofNat 588413637),AV.int false IntKind.i64 (Int.ofNat 964162010),AV.int false IntKind.i64 (Int.ofNat 331978539),AV.int false IntKind.i64 (Int.ofNat 570796325),AV.int false IntKind.i64 (Int.ofNat 1)] },{ wr:=(0:Nat),body:=ABody.rows IntKind.i64 [(294967296:Int),(4:Int)] },{ wr:=(0:Nat),body:=ABody.rows IntKind.i64 [(711109072:Int),(823253194:Int),(522842290:Int),(119904847:Int),(977824172:Int),(746518845:Int),(6:Int)] }],4,1495⟩
theorem aeo (z:Int):(run cO2 300).call 74 (zB oA2 oB2) (zG oA2 oB2)=some ⟨.p (DJ z),[⟨.tt,Y9 z,Za z⟩]⟩:=by kernel_rfl
def DK (z:Int):Prop:=((↑oB3.length:Int)=2/\((((↑oA3.length:Int)=(↑oA3.length:Int)/\(↑oB3.length:Int)=(↑oB3.length:Int))/\Sm oA3/\Sm oB3)/\decide (nQ oA3 oB3<0)=false)/\(((0:Int)<=Int.ofNat 1/\Int.ofNat 1<(↑oB3.length:Int))/\(Int.ofNat 1).toNat<oB3.length/\oB3.getD (Int.ofNat 1).toNat (0:Int)=3)/\(((↑oA3.length:Int)=7/\((↑oA3.length:Int)=7/\(((0:Int)<=0/\(0:Int)<(↑oA3.length:Int))/\Int.toNat (0:Int)<oA3.length/\oA3.getD (Int.toNat (0:Int)) (0:Int)=552723968)/\(((0:Int)<=Int.ofNat 1/\Int.ofNat 1<(↑oA3.length:Int))/\(Int.ofNat 1).toNat<oA3.length/\oA3.getD (Int.ofNat 1).toNat (0:Int)=691129481)/\(((0:Int)<=Int.ofNat 2/\Int.ofNat 2<(↑oA3.length:Int))/\(Int.ofNat 2).toNat<oA3.length/\oA3.getD (Int.ofNat 2).toNat (0:Int)=224064528)/\(((0:Int)<=Int.ofNat 3/\Int.ofNat 3<(↑oA3.length:Int))/\(Int.ofNat 3).toNat<oA3.length/\oA3.getD (Int.ofNat 3).toNat (0:Int)=649745662)/\(((0:Int)<=Int.ofNat 4/\Int.ofNat 4<(↑oA3.length:Int))/\(Int.ofNat 4).toNat<oA3.length/\oA3.getD (Int.ofNat 4).toNat (0:Int)=130504739)/\(((0:Int)<=Int.ofNat 5/\Int.ofNat 5<(↑oA3.length:Int))/\(Int.ofNat 5).toNat<oA3.length/\oA3.getD (Int.ofNat 5).toNat (0:Int)=373259426)/\((0:Int)<=Int.ofNat 6/\Int.ofNat 6<(↑oA3.length:Int))/\(Int.ofNat 6).toNat<oA3.length/\oA3.getD (Int.ofNat 6).toNat (0:Int)=3)/\(↑oA3.length:Int)=7)/\(↑oB3.length:Int)=2/\((↑oB3.length:Int)=2/\(((0:Int)<=0/\(0:Int)<(↑oB3.length:Int))/\Int.toNat (0:Int)<oB3.length/\oB3.getD (Int.toNat (0:Int)) (0:Int)=221225472)/\((0:Int)<=Int.ofNat 1/\Int.ofNat 1<(↑oB3.length:Int))/\(Int.ofNat 1).toNat<oB3.length/\oB3.getD (Int.ofNat 1).toNat (0:Int)=3)/\(↑oB3.length:Int)=2)/\(↑oA3.length:Int)=7/\Dig ([]:List Int)/\([]:List Int).length<=(500000:Nat)/\(1:Int)<=Int.ofNat 250000000/\Int.ofNat 250000000<=1000000000)
def Zb (z:Int):AV:=(AV.tuple [AV.slice 2 (0:Nat) 6 6,AV.lslice 3 (↑(aa (val ([]:List Int) / Int.ofNat 250000000).toNat).length:Int)])
def Zc (z:Int):Hp:=⟨[{ wr:=1393,body:=ABody.rows IntKind.i64 (aa (val ([]:List Int) / Int.ofNat 250000000).toNat) },{ wr:=1327,body:=ABody.cells [AV.int false IntKind.i64 (Int.ofNat 65723144),AV.int false IntKind.i64 (Int.ofNat 93167628),AV.int false IntKind.i64 (Int.ofNat 154214461),AV.int false IntKind.i64 (Int.ofNat 196597746),AV.int false IntKind.i64 (Int.ofNat 47197551),AV.int false IntKind.i64 (Int.ofNat 1)] },{ wr:=(0:Nat),body:=ABody.rows IntKind.i64 [(221225472:Int),(3:Int)] },{ wr:=(0:Nat),body:=ABody.rows IntKind.i64 [(552723968:Int),(691129481:Int),(224064528:Int),(649745662:Int),(130504739:Int),(373259426:Int),(3:Int)] }],4,1419⟩
theorem aep (z:Int):(run cO3 300).call 74 (zB oA3 oB3) (zG oA3 oB3)=some ⟨.p (DK z),[⟨.tt,Zb z,Zc z⟩]⟩:=by kernel_rfl
def OvC (a b:List Int):Prop:=(a=oA1/\b=oB1)\/(a=oA2/\b=oB2)\/(a=oA3/\b=oB3)
theorem IW {l:List Int} (h:Nat.ble l.length 500000=true):Sm l:=Nat.le_of_ble_eq_true h
theorem DL {x y:Int} (h:0<=x/\x<1000000000/\0<=y/\y<1000000000):Dig [x,y]:=bQ.2 ⟨⟨h.1,h.2.1⟩,uD h.2.2.1 h.2.2.2⟩
theorem LV (z:Int):DI z:=by
 unfold DI
 and_intros <;> first|rfl|exact IW rfl|exact jR|decide|exact DL (by decide)
theorem LW (z:Int):DJ z:=by
 unfold DJ
 and_intros <;> first|rfl|exact IW rfl|exact jR|decide|exact DL (by decide)
theorem LX (z:Int):DK z:=by
 unfold DK
 and_intros <;> first|rfl|exact IW rfl|exact jR|decide|exact DL (by decide)
theorem acm:aa (val oA1 / val oB1).toNat=[309792297,51337804,267159681,462918079,1]:=fI (l:=[309792297,51337804,267159681,462918079,1]) (fun x hx=>by simp at hx; omega) (by unfold Top; decide)
theorem acn:aa (val oA2 / val oB2).toNat=[788792418,588413637,964162010,331978539,570796325,1]:=fI (l:=[788792418,588413637,964162010,331978539,570796325,1]) (fun x hx=>by simp at hx; omega) (by unfold Top; decide)
theorem aco:aa (val oA3 / val oB3).toNat=[65723144,93167628,154214461,196597746,47197551,1]:=fI (l:=[65723144,93167628,154214461,196597746,47197551,1]) (fun x hx=>by simp at hx; omega) (by unfold Top; decide)
theorem BG {a b:List Int} (h:(Dig a/\Dig b/\Top a/\Top b/\a.length<=500000/\b.length=1/\0<val b/\val b<=val a)\/OvC a b):XQ Tryd.prog (fun _=>none) hG0 74 .i64 [.li,.li] [] [a,b] (.tu [.li false (aa (val a / val b).toNat),.any]):=by
 rcases h with ⟨ha,hb,ta,tb,la,lb,h0,h1⟩|⟨rfl,rfl⟩|⟨rfl,rfl⟩|⟨rfl,rfl⟩
 .have e1:=PM lb
  have g:=hb.get 0
  have hc:¬ nQ a b<0:=fun hh=>by have:=(Kb ha hb ta tb la (by omega)).1 hh; omega
  refine ⟨cOv,300,zB a b,_,_,_,_,_,YZ,rfl,rfl,⟨rfl,rfl,trivial⟩,aem a b,rfl,⟨⟨⟨⟨rfl,rfl⟩,la,by show _<=_; omega⟩,decide_eq_false hc⟩,beq_iff_eq.2 (by omega),⟨by decide,by omega⟩,by show 0<_; omega,rfl,ha,la,by show 1<=b.getD 0 0; omega,by show b.getD 0 0<=_; omega⟩,rfl,rfl,rfl,?_⟩
  show aa (val a / b.getD 0 0).toNat=_
  rw [e1]
 .refine ⟨cO1,300,zB oA1 oB1,_,_,_,_,_,Y4,rfl,rfl,⟨rfl,rfl,trivial⟩,aen 0,rfl,LV 0,rfl,rfl,?_⟩
  exact acm.symm
 .refine ⟨cO2,300,zB oA2 oB2,_,_,_,_,_,Y5,rfl,rfl,⟨rfl,rfl,trivial⟩,aeo 0,rfl,LW 0,rfl,rfl,?_⟩
  exact acn.symm
 .refine ⟨cO3,300,zB oA3 oB3,_,_,_,_,_,Y6,rfl,rfl,⟨rfl,rfl,trivial⟩,aep 0,rfl,LX 0,rfl,rfl,?_⟩
  exact aco.symm
end
end Go.Proofs.YtbiiiloimbjpaaaDoor.K
namespace Go.Dg
def RG:Int:=1570796326794896619231321691639751442098584716
def bA (m d:Int):Int:=RG*m / d
def l9 (m d:Int):Int:=lH (bA m d*bA m d / PP) 200 2 (bA m d) (bA m d)
def kL (m d:Int):Int:=(l9 m d - 100000000)*4294967296 / PP
structure SinG (m d:Int):Prop where
 t:0<bA m d*(bA m d*bA m d / PP) / PP / (2*(2+1))
 hi:l9 m d<=2*PP
 far:100000000<l9 m d
 same:(l9 m d+100000000)*4294967296 / PP=kL m d
def jy (m d:Int):Int:=if m=0 then 0 else if m=d then 4294967296 else if 3*m=d then 2147483648 else kL m d
def jA (m d:Int):Int:=if m=0 then 0 else if m=d then 4294967296 else if 3*m=d then 2147483648 else kL m d+1
def VB (m d:Int):Bool:=decide (0<bA m d*(bA m d*bA m d / PP) / PP / (2*(2+1)))&&decide (l9 m d<=2*PP)&&decide (100000000<l9 m d)&&decide ((l9 m d+100000000)*4294967296 / PP=kL m d)
theorem VC {m d:Int} (h:VB m d=true):SinG m d:=by
 simp only [VB,Bool.and_eq_true,decide_eq_true_eq] at h
 exact ⟨h.1.1.1,h.1.1.2,h.1.2,h.2⟩
theorem Zd {r c D R:Int} (h0:0<=r) (h1:r<858993459200000000) (c0:0<=c) (c1:c<1000000000) (hD:D=r / 858993459) (hR:R=r % 858993459):
  0<=D/\D<=1000000000/\0<=R/\R<858993459 /\
  ((D>=1000000000\/D*200000000>R*1000000000+c)->D - 1=(r*1000000000+c) / 858993459200000000/\¬ (D - 1>=1000000000)/\¬ ((D - 1)*200000000>(R+858993459)*1000000000+c)) /\
  (¬ (D>=1000000000\/D*200000000>R*1000000000+c)->D=(r*1000000000+c) / 858993459200000000):=by
 have e:r=858993459*D+R:=by omega
 have R0:0<=R:=by omega
 have R1:R<858993459:=by omega
 have D0:0<=D:=by omega
 have D1:D<=1000000000:=by omega
 have key:∀ q:Int,q*858993459200000000<=r*1000000000+c->r*1000000000+c<(q+1)*858993459200000000->q=(r*1000000000+c) / 858993459200000000:=fun q a b=>by omega
 refine ⟨D0,D1,R0,R1,fun h=>⟨key _ ?_ ?_,?_,?_⟩,fun h=>key _ ?_ ?_⟩ <;> omega
theorem VD {r c e:Int} (h0:0<=r) (h1:r<858993459200000000) (c0:0<=c) (c1:c<1000000000) (he:e=(r*1000000000+c) / 858993459200000000)
  {p3 p4 n n1 b p7 p8 m m1 m2 d d1:Int} (e3:p3=200000000*e % 1000000000) (e4:p4=200000000*e / 1000000000) (en:n=c - p3) (en1:n1=if n<0 then n+1000000000 else n) (eb:b=if n<0 then p4+1 else p4)
  (e7:p7=858993459*e % 1000000000) (e8:p8=858993459*e / 1000000000) (em:m=r % 1000000000 - p7 - b) (em1:m1=if m<0 then m+1000000000 else m) (em2:m2=if m1<0 then m1+1000000000 else m1)
  (ed:d=if m<0 then p8+1 else p8) (ed1:d1=if m1<0 then d+1 else d):
  ¬ n1<0/\n1=(r*1000000000+c) % 858993459200000000 % 1000000000/\m2=(r*1000000000+c) % 858993459200000000 / 1000000000/\r / 1000000000=d1:=by
 have q0:0<=e:=by omega
 have q1:e<1000000000:=by omega
 have f0:0<=r*1000000000+c - e*858993459200000000:=by omega
 have f1:r*1000000000+c - e*858993459200000000<858993459200000000:=by omega
 have n0:0<=n1/\n1<1000000000:=by omega
 have g1:c - 200000000*e=n1 - 1000000000*b:=by split at en1 <;> split at eb <;> omega
 have g2:r % 1000000000 - 858993459*e - b=m2 - 1000000000*d1:=by split at em1 <;> split at em2 <;> split at ed <;> split at ed1 <;> omega
 have m0:0<=m2/\m2<1000000000:=by
  have:0<=b/\b<=200000001:=by split at eb <;> omega
  split at em1 <;> split at em2 <;> omega
 have t:r*1000000000+c - e*858993459200000000=(r / 1000000000 - d1)*1000000000000000000+m2*1000000000+n1:=by omega
 have z:r / 1000000000 - d1=0:=by omega
 have u:(r*1000000000+c) % 858993459200000000=m2*1000000000+n1:=by omega
 rw [u]
 refine ⟨by omega,by omega,by omega,by omega⟩
def cyN (x:Nat->Int):Nat->Int
 | 0=>0
 | i+1=>(x i*200000000+cyN x i) / 1000000000
def dyN (x:Nat->Int) (i:Nat):Int:=(x i*200000000+cyN x i) % 1000000000
def rmN (x:Nat->Int) (n:Nat):Nat->Int
 | 0=>cyN x n*1000000000+dyN x (n - 1)
 | k+1=>(rmN x n k*1000000000+dyN x (n - 2 - k)) % 858993459200000000
def qyN (x:Nat->Int) (n k:Nat):Int:=(rmN x n k*1000000000+dyN x (n - 2 - k)) / 858993459200000000
def n1N (x:Nat->Int) (n k:Nat):Int:=dyN x (n - 2 - k) - 200000000*qyN x n k % 1000000000
def b1N (x:Nat->Int) (n k:Nat):Int:=if n1N x n k<0 then 200000000*qyN x n k / 1000000000+1 else 200000000*qyN x n k / 1000000000
def ovW (x:Nat->Int) (n:Nat) (k i:Nat):Int:=
 match k with
 | 20=>dyN x i
 | 21=>cyN x (i+1)
 | _=>match i with
  | 0=>rmN x n k / 1000000000
  | 1=>rmN x n k % 1000000000
  | 2=>qyN x n k
  | 3=>200000000*qyN x n k % 1000000000
  | 4=>200000000*qyN x n k / 1000000000
  | 5=>rmN x n (k+1) % 1000000000
  | 6=>b1N x n k
  | 7=>858993459*qyN x n k % 1000000000
  | 8=>858993459*qyN x n k / 1000000000
  | 9=>rmN x n (k+1) / 1000000000
  | 10=>rmN x n k / 1000000000
  | _=>qyN x n k
theorem PO {x:Nat->Int} {n:Nat} (h:∀ i,i<n->0<=x i/\x i<1000000000):∀ i,i<=n->0<=cyN x i/\cyN x i<200000000
 | 0,_=>by unfold cyN; omega
 | i+1,hi=>by
  have a:=PO h i (by omega)
  have b:=h i (by omega)
  unfold cyN
  omega
theorem Kg (x:Nat->Int) (i:Nat):0<=dyN x i/\dyN x i<1000000000:=by
 unfold dyN; omega
theorem BH {x:Nat->Int} {n:Nat} (h:∀ i,i<n->0<=x i/\x i<1000000000):∀ k,0<=rmN x n k/\rmN x n k<858993459200000000
 | 0=>by
  have a:=PO h n (Nat.le_refl n)
  have b:=Kg x (n - 1)
  unfold rmN
  omega
 | k+1=>by
  unfold rmN; omega
end Go.Dg
namespace Go.Dg
open Go Go.Eng
def aV:List Int:=[294967296,4]
def oX6 (x:Nat->Int):List Int:=[x 0,x 1,x 2,x 3,x 4,x 5]
def oX7 (x:Nat->Int):List Int:=[x 0,x 1,x 2,x 3,x 4,x 5,x 6]
def ovT (a b:Int):Int:=IntKind.i64.wrap (IntKind.i64.wrap (a*1000000000)+b)
def Ag (a b:Int):Int:=IntKind.i64.wrap ((ovT a b).tdiv 858993459)
def LY (a b:Int):Int:=(ovT a b).tmod 858993459
def Ah (a b c:Int):Bool:=bif decide (Ag a b>=1000000000) then true else decide (IntKind.i64.wrap (Ag a b*200000000)>IntKind.i64.wrap (IntKind.i64.wrap (LY a b*1000000000)+c))
def LZ (a b:Int):Bool:=decide (IntKind.i64.wrap (LY a b+858993459)>=1000000000)
def VE (a b c:Int):Bool:=bif decide (IntKind.i64.wrap (Ag a b - 1)>=1000000000) then true else decide (IntKind.i64.wrap (IntKind.i64.wrap (Ag a b - 1)*200000000)>IntKind.i64.wrap (IntKind.i64.wrap (IntKind.i64.wrap (LY a b+858993459)*1000000000)+c))
def ovE (a b c:Int):Int:=bif Ah a b c&&LZ a b||!Ah a b c then bif Ah a b c&&LZ a b then IntKind.i64.wrap (Ag a b - 1) else Ag a b else bif VE a b c then IntKind.i64.wrap (IntKind.i64.wrap (Ag a b - 1) - 1) else IntKind.i64.wrap (Ag a b - 1)
def lf1 (n:Int):Int:=bif decide (n<0) then IntKind.i64.wrap (n+1000000000) else n
def lf2 (n:Int):Int:=bif decide (lf1 n<0) then IntKind.i64.wrap (lf1 n+1000000000) else lf1 n
def lb1 (n b:Int):Int:=bif decide (n<0) then IntKind.i64.wrap (b+1) else b
def lb2 (n b:Int):Int:=bif decide (lf1 n<0) then IntKind.i64.wrap (lb1 n b+1) else lb1 n b
def Ze (a b c e p3 p4 n5 b6 p7 p8 m9 d10 e16 A B j len:Int) (l:List Int):Prop:=
 (A=a/\B=b)/\((Ah a b c&&!LZ a b)=true->VE a b c=true->decide (IntKind.i64.wrap (IntKind.i64.wrap (LY a b+858993459)+858993459)>=1000000000)=true) /\
 (ovE a b c=e/\(((IntKind.i64.wrap (200000000*e)).tmod 1000000000=p3/\IntKind.i64.wrap ((IntKind.i64.wrap (200000000*e)).tdiv 1000000000)=p4/\lf2 (IntKind.i64.wrap (IntKind.i64.wrap (c - p3) - 0))=n5) /\
  (B=b/\(IntKind.i64.wrap (858993459*e)).tmod 1000000000=p7/\lb2 (IntKind.i64.wrap (IntKind.i64.wrap (c - p3) - 0)) p4=b6)/\IntKind.i64.wrap ((IntKind.i64.wrap (858993459*e)).tdiv 1000000000)=p8/\lf2 (IntKind.i64.wrap (IntKind.i64.wrap (b - p7) - b6))=m9) /\
  (A=a/\lb2 (IntKind.i64.wrap (IntKind.i64.wrap (b - p7) - b6)) p8=d10)/\decide (IntKind.i64.wrap (a - d10)<0)=false) /\
 ovE a b c=e16/\(0<=j/\j<len)/\(0+j).toNat<l.length
theorem Zf {r c A B j len:Int} {l:List Int} (h0:0<=r) (h1:r<858993459200000000) (c0:0<=c) (c1:c<1000000000) (hA:A=r / 1000000000) (hB:B=r % 1000000000) (j0:0<=j) (j1:j<len) (hl:j.toNat<l.length):
  Ze (r / 1000000000) (r % 1000000000) c ((r*1000000000+c) / 858993459200000000) (200000000*((r*1000000000+c) / 858993459200000000) % 1000000000) (200000000*((r*1000000000+c) / 858993459200000000) / 1000000000)
   ((r*1000000000+c) % 858993459200000000 % 1000000000) (if c - 200000000*((r*1000000000+c) / 858993459200000000) % 1000000000<0 then 200000000*((r*1000000000+c) / 858993459200000000) / 1000000000+1 else 200000000*((r*1000000000+c) / 858993459200000000) / 1000000000)
   (858993459*((r*1000000000+c) / 858993459200000000) % 1000000000) (858993459*((r*1000000000+c) / 858993459200000000) / 1000000000) ((r*1000000000+c) % 858993459200000000 / 1000000000) (r / 1000000000) ((r*1000000000+c) / 858993459200000000) A B j len l:=by
 generalize he:(r*1000000000+c) / 858993459200000000=e
 obtain ⟨D0,D1,R0,R1,k1,k2⟩:=Zd h0 h1 c0 c1 rfl rfl
 have e0:0<=e/\e<1000000000:=by omega
 have hT:ovT (r / 1000000000) (r % 1000000000)=r:=by
  unfold ovT
  rw [iw (n:=r / 1000000000*1000000000) (by omega) (by omega),iw (by omega) (by omega)]; omega
 have hD:Ag (r / 1000000000) (r % 1000000000)=r / 858993459:=by
  unfold Ag
  rw [hT,Int.tdiv_eq_ediv_of_nonneg h0,iw (by omega) (by omega)]
 have hR:LY (r / 1000000000) (r % 1000000000)=r % 858993459:=by
  unfold LY
  rw [hT,Int.tmod_eq_emod_of_nonneg h0]
 have hC:Ah (r / 1000000000) (r % 1000000000) c=decide (r / 858993459>=1000000000\/r / 858993459*200000000>r % 858993459*1000000000+c):=by
  unfold Ah
  rw [hD,hR,iw (n:=r / 858993459*200000000) (by omega) (by omega),iw (n:=r % 858993459*1000000000) (by omega) (by omega),iw (n:=r % 858993459*1000000000+c) (by omega) (by omega)]
  by_cases h:r / 858993459>=1000000000
  .rw [decide_eq_true h]; exact (decide_eq_true (p:=r / 858993459>=1000000000\/r / 858993459*200000000>r % 858993459*1000000000+c) (Or.inl h)).symm
  .rw [decide_eq_false h]
   show decide _=decide _
   exact decide_eq_decide.2 ⟨fun x=>.inr x,fun x=>x.resolve_left h⟩
 have hX:LZ (r / 1000000000) (r % 1000000000)=decide (r % 858993459+858993459>=1000000000):=by
  unfold LZ
  rw [hR,iw (by omega) (by omega)]
 have hC1:Ah (r / 1000000000) (r % 1000000000) c=true->VE (r / 1000000000) (r % 1000000000) c=false:=fun h=>by
  rw [hC] at h
  obtain ⟨_,q1,q2⟩:=k1 (of_decide_eq_true h)
  unfold VE
  rw [hD,hR,iw (n:=r / 858993459 - 1) (by omega) (by omega),iw (n:=(r / 858993459 - 1)*200000000) (by omega) (by omega),iw (n:=r % 858993459+858993459) (by omega) (by omega),iw (n:=(r % 858993459+858993459)*1000000000) (by omega) (by omega),iw (n:=(r % 858993459+858993459)*1000000000+c) (by omega) (by omega),decide_eq_false q1]
  exact decide_eq_false q2
 have hE:ovE (r / 1000000000) (r % 1000000000) c=e:=by
  unfold ovE
  cases hc:Ah (r / 1000000000) (r % 1000000000) c with
  | true=>
   rw [hC1 hc,hD]
   rw [hC] at hc
   have:=(k1 (of_decide_eq_true hc)).1
   rw [iw (by omega) (by omega)]
   cases LZ (r / 1000000000) (r % 1000000000) <;> exact this.trans he
  | false=>
   rw [hD]
   rw [hC] at hc
   exact (k2 (of_decide_eq_false hc)).trans he
 obtain ⟨l1,l2,l3,l4⟩:=VD h0 h1 c0 c1 he.symm (p3:=200000000*e % 1000000000) (p4:=200000000*e / 1000000000) rfl rfl (n:=c - 200000000*e % 1000000000) rfl rfl rfl (p7:=858993459*e % 1000000000) (p8:=858993459*e / 1000000000) rfl rfl rfl rfl rfl rfl rfl
 generalize hp3:200000000*e % 1000000000=p3 at *
 generalize hp4:200000000*e / 1000000000=p4 at *
 generalize hp7:858993459*e % 1000000000=p7 at *
 generalize hp8:858993459*e / 1000000000=p8 at *
 have f1:∀ n:Int,-10000000000<=n->n<=10000000000->lf1 n=if n<0 then n+1000000000 else n:=fun n a b=>by
  unfold lf1
  by_cases h:n<0
  .rw [decide_eq_true h,if_pos h]; exact iw (by omega) (by omega)
  .rw [decide_eq_false h,if_neg h]; rfl
 have f2:∀ n:Int,-10000000000<=n->n<=10000000000->lf2 n=if (if n<0 then n+1000000000 else n)<0 then (if n<0 then n+1000000000 else n)+1000000000 else (if n<0 then n+1000000000 else n):=fun n a b=>by
  unfold lf2
  rw [f1 n a b]
  generalize hz:(if n<0 then n+1000000000 else n)=z
  have hz2:-10000000000<=z/\z<=11000000000:=by split at hz <;> omega
  by_cases h:z<0
  .rw [decide_eq_true h,if_pos h]; exact iw (by omega) (by omega)
  .rw [decide_eq_false h,if_neg h]; rfl
 have g1:∀ n b:Int,0<=b->b<=10000000000->lb1 n b=if n<0 then b+1 else b:=fun n b u v=>by
  unfold lb1
  by_cases h:n<0
  .rw [decide_eq_true h,if_pos h]; exact iw (by omega) (by omega)
  .rw [decide_eq_false h,if_neg h]; rfl
 have g2:∀ n b:Int,-10000000000<=n->n<=10000000000->0<=b->b<=10000000000->lb2 n b=if (if n<0 then n+1000000000 else n)<0 then (if n<0 then b+1 else b)+1 else (if n<0 then b+1 else b):=fun n b a a' u v=>by
  unfold lb2
  rw [f1 n a a',g1 n b u v]
  generalize hz:(if n<0 then b+1 else b)=z
  have hz2:0<=z/\z<=10000000001:=by split at hz <;> omega
  by_cases h:(if n<0 then n+1000000000 else n)<0
  .rw [decide_eq_true h,if_pos h]; exact iw (by omega) (by omega)
  .rw [decide_eq_false h,if_neg h]; rfl
 have b3:0<=p3/\p3<1000000000:=by omega
 have b4:0<=p4/\p4<=200000000:=by omega
 have b7:0<=p7/\p7<1000000000:=by omega
 have b8:0<=p8/\p8<=858993459:=by omega
 have wn:IntKind.i64.wrap (IntKind.i64.wrap (c - p3) - 0)=c - p3:=by rw [iw (n:=c - p3) (by omega) (by omega),Int.sub_zero,iw (by omega) (by omega)]
 generalize hb6:(if c - p3<0 then p4+1 else p4)=b6 at *
 have b6b:0<=b6/\b6<=200000001:=by split at hb6 <;> omega
 have wm:IntKind.i64.wrap (IntKind.i64.wrap (r % 1000000000 - p7) - b6)=r % 1000000000 - p7 - b6:=by rw [iw (n:=r % 1000000000 - p7) (by omega) (by omega),iw (by omega) (by omega)]
 have w2:IntKind.i64.wrap (200000000*e)=200000000*e:=iw (by omega) (by omega)
 have w8:IntKind.i64.wrap (858993459*e)=858993459*e:=iw (by omega) (by omega)
 refine ⟨⟨hA,hB⟩,fun h k=>?_,⟨hE,⟨⟨?_,?_,?_⟩,⟨hB,?_,?_⟩,?_,?_⟩,⟨hA,?_⟩,?_⟩,hE,⟨j0,j1⟩,by rw [Int.zero_add]; exact hl⟩
 .have hc:Ah (r / 1000000000) (r % 1000000000) c=true:=by
   revert h
   cases Ah (r / 1000000000) (r % 1000000000) c <;> intro h
   .cases h
   .rfl
  rw [hC1 hc] at k; cases k
 .rw [w2,Int.tmod_eq_emod_of_nonneg (by omega)]; exact hp3
 .rw [w2,Int.tdiv_eq_ediv_of_nonneg (by omega),iw (by omega) (by omega)]; exact hp4
 .rw [wn,f2 _ (by omega) (by omega),if_neg l1]; exact l2
 .rw [w8,Int.tmod_eq_emod_of_nonneg (by omega)]; exact hp7
 .rw [wn,g2 _ _ (by omega) (by omega) (by omega) (by omega),if_neg l1]; exact hb6
 .rw [w8,Int.tdiv_eq_ediv_of_nonneg (by omega),iw (by omega) (by omega)]; exact hp8
 .rw [wm,f2 _ (by omega) (by omega)]; exact l3
 .rw [wm,g2 _ _ (by omega) (by omega) (by omega) (by omega)]; exact l4.symm
 .rw [Int.sub_self]; rfl
def rO (l:List Int) (i dg cr c:Int):Prop:=((0<=i/\i<(l.length:Int))/\i.toNat<l.length)/\(IntKind.i64.wrap (IntKind.i64.wrap (l.getD i.toNat 0*200000000)+c)).tmod 1000000000=dg/\IntKind.i64.wrap ((IntKind.i64.wrap (IntKind.i64.wrap (l.getD i.toNat 0*200000000)+c)).tdiv 1000000000)=cr
theorem Zg {l:List Int} {i z c dg cr:Int} (h0:0<=i) (h1:i<(l.length:Int)) (hz:l.getD i.toNat 0=z) (z0:0<=z) (z1:z<1000000000) (c0:0<=c) (c1:c<200000000) (hd:(z*200000000+c) % 1000000000=dg) (hc:(z*200000000+c) / 1000000000=cr):rO l i dg cr c:=by
 refine ⟨⟨⟨h0,h1⟩,by omega⟩,?_,?_⟩
 .rw [hz,iw (n:=z*200000000) (by omega) (by omega),iw (by omega) (by omega),Int.tmod_eq_emod_of_nonneg (by omega)]; exact hd
 .rw [hz,iw (n:=z*200000000) (by omega) (by omega),iw (n:=z*200000000+c) (by omega) (by omega),Int.tdiv_eq_ediv_of_nonneg (by omega),iw (by omega) (by omega)]; exact hc
def oLX (l:List Int):Int:=IntKind.i64.wrap (IntKind.i64.wrap ((l.length:Int) - 2)+1)
def oQl (l:List Int) (m:Nat) (w:Nat->Nat->Int):Nat->List Int
 | 0=>List.replicate (oLX l).toNat 0
 | k+1=>(oQl l m w k).set (0+((m - k:Nat):Int)).toNat (w k 16)
def nN (l:List Int) (n:Int) (by' rd:Prop) (t:Prop):Prop:=
 (aV.length:Int)=2/\((((l.length:Int)=(l.length:Int)/\(aV.length:Int)=(aV.length:Int))/\Sm l/\Sm aV)/\decide (nQ l aV<0)=false) /\
 (((0:Int)<=1/\(1:Int)<(aV.length:Int))/\(1:Int).toNat<aV.length/\aV.getD (1:Int).toNat 0=4) /\
 (((l.length:Int)=n/\((l.length:Int)=n/\by')/\(l.length:Int)=n)/\(aV.length:Int)=2/\((aV.length:Int)=2/\(((0:Int)<=0/\(0:Int)<(aV.length:Int))/\(0:Int).toNat<aV.length/\aV.getD (0:Int).toNat 0=294967296)/\((0:Int)<=1/\(1:Int)<(aV.length:Int))/\(1:Int).toNat<aV.length/\aV.getD (1:Int).toNat 0=4)/\(aV.length:Int)=2) /\
 (oLX l=oLX l/\0<=oLX l/\oLX l<=1048576)/\(oLX l=n - 1/\rd)/\t
def ovR (w:Nat->Nat->Int) (l:List Int) (m k:Nat) (A B:Int):Prop:=
 Ze (w k 0) (w k 1) (w 20 (m - k)) (w k 2) (w k 3) (w k 4) (w k 5) (w k 6) (w k 7) (w k 8) (w k 9) (w k 10) (w k 16) A B ((m - k:Nat):Int) (oLX l) (oQl l m w k)
def PQ (w:Nat->Nat->Int) (l:List Int):Prop:=rO l 0 (w 20 0) (w 21 0) 0/\rO l 1 (w 20 1) (w 21 1) (w 21 0)/\rO l 2 (w 20 2) (w 21 2) (w 21 1)/\rO l 3 (w 20 3) (w 21 3) (w 21 2)/\rO l 4 (w 20 4) (w 21 4) (w 21 3)/\rO l 5 (w 20 5) (w 21 5) (w 21 4)
def GA (w:Nat->Nat->Int) (l:List Int):Prop:=rO l 0 (w 20 0) (w 21 0) 0/\rO l 1 (w 20 1) (w 21 1) (w 21 0)/\rO l 2 (w 20 2) (w 21 2) (w 21 1)/\rO l 3 (w 20 3) (w 21 3) (w 21 2)/\rO l 4 (w 20 4) (w 21 4) (w 21 3)/\rO l 5 (w 20 5) (w 21 5) (w 21 4)/\rO l 6 (w 20 6) (w 21 6) (w 21 5)
def PR (w:Nat->Nat->Int) (l:List Int):Prop:=ovR w l 4 0 (w 21 5) (w 20 5)/\ovR w l 4 1 (w 0 9) (w 0 5)/\ovR w l 4 2 (w 1 9) (w 1 5)/\ovR w l 4 3 (w 2 9) (w 2 5)/\ovR w l 4 4 (w 3 9) (w 3 5)
def GD (w:Nat->Nat->Int) (l:List Int):Prop:=ovR w l 5 0 (w 21 6) (w 20 6)/\ovR w l 5 1 (w 0 9) (w 0 5)/\ovR w l 5 2 (w 1 9) (w 1 5)/\ovR w l 5 3 (w 2 9) (w 2 5)/\ovR w l 5 4 (w 3 9) (w 3 5)/\ovR w l 5 5 (w 4 9) (w 4 5)
def tU2 (a b:Int):Prop:=(((2:Nat):Int)=2/\((2:Nat):Int)=2/\(a==0)=false)/\Dig [b,a]/\[b,a].length<=500000/\(1:Int)<=200000000/\(200000000:Int)<=1000000000
def tU1 (a b:Int):Prop:=(((((2:Nat):Int)=2/\((2:Nat):Int)=2/\(a==0)=true)/\((2:Nat):Int)=2)/\((1:Nat):Int)=1/\((1:Nat):Int)=1/\(b==0)=false)/\Dig [b]/\[b].length<=500000/\(1:Int)<=200000000/\(200000000:Int)<=1000000000
def tU0 (a b:Int):Prop:=(((((2:Nat):Int)=2/\((2:Nat):Int)=2/\(a==0)=true)/\((2:Nat):Int)=2)/\((((1:Nat):Int)=1/\((1:Nat):Int)=1/\(b==0)=true)/\((1:Nat):Int)=1)/\((0:Nat):Int)=0)/\Dig []/\([]:List Int).length<=500000/\(1:Int)<=200000000/\(200000000:Int)<=1000000000
def tQ0 (l:List Int) (m:Int) (q:List Int):Prop:=oLX l=m+1/\oLX l=m+1/\(0<=m/\m<oLX l)/\(0+m).toNat<q.length/\(q.getD (0+m).toNat 0==0)=false
def tQ1 (l:List Int) (q:List Int):Prop:=((oLX l=6/\oLX l=6/\((0:Int)<=5/\5<oLX l)/\(0+5:Int).toNat<q.length/\(q.getD (0+5:Int).toNat 0==0)=true)/\oLX l=6/\(0:Int)<=0/\(0:Int)<=5/\5<=oLX l)/\(5 - 0:Int)=5/\(5 - 0:Int)=5/\((0:Int)<=4/\(4:Int)<5 - 0)/\(0+0+4:Int).toNat<q.length/\(q.getD (0+0+4:Int).toNat 0==0)=false
end Go.Dg
namespace Go.Proofs.YtbiiiloimbjpaaaDoor.K
open Go Go.Eng Go.Dg
noncomputable section
def Ai:List (Nat×List (Nat×Nat×Nat×AV))->Nat->Nat->Option AV
 | [],_,_=>none
 | (z,h) :: l,c,t=>match Nat.ble c z with
  | true=>PN h c t
  | false=>Ai l c t
def hTL:List (Nat×Nat×AV)->Nat->Option (Nat×AV)
 | [],_=>none
 | (a,t,v) :: l,c=>match Nat.beq a c with
  | true=>some (t,v)
  | false=>hTL l c
def oR6 (w:Nat->Nat->Int):List (Nat×List (Nat×Nat×Nat×AV)):=[(283,[(0,10,17,.int false .i64 2),(11,31,18,.bool false false),(20,31,43,.int false .i64 4),(32,194,11,.int false .i64 6),(195,264,11,.int false .i64 2),(32,194,15,.int false .i64 6),(195,264,15,.int false .i64 2),(32,194,36,.int false .i64 6),(195,264,36,.int false .i64 2),(42,65,29,.int true .i64 (w 20 0)),(42,65,31,.int true .i64 (w 21 0)),(66,89,29,.int true .i64 (w 20 1)),(66,89,31,.int true .i64 (w 21 1)),(90,113,29,.int true .i64 (w 20 2)),(90,113,31,.int true .i64 (w 21 2)),(114,137,29,.int true .i64 (w 20 3)),(114,137,31,.int true .i64 (w 21 3)),(138,161,29,.int true .i64 (w 20 4)),(138,161,31,.int true .i64 (w 21 4)),(162,185,29,.int true .i64 (w 20 5)),(162,185,31,.int true .i64 (w 21 5)),(206,229,20,.int false .i64 294967296),(230,253,20,.int false .i64 4),(265,283,61,.int false .i64 5)]),(535,[(391,391,128,.bool false true),(392,409,137,.int true .i64 (w 0 2)),(404,459,26,.int true .i64 (w 0 3)),(404,459,33,.int true .i64 (w 0 4)),(404,459,48,.int true .i64 (w 0 5)),(460,509,28,.int true .i64 (w 0 6)),(460,509,22,.int true .i64 (w 0 1)),(460,509,26,.int true .i64 (w 0 7)),(460,509,33,.int true .i64 (w 0 8)),(460,509,48,.int true .i64 (w 0 9)),(510,529,56,.int true .i64 (w 0 0)),(510,529,57,.int true .i64 (w 0 10)),(516,526,64,.bool false false),(516,535,152,.int true .i64 (w 0 16))]),(787,[(643,643,128,.bool false true),(644,661,137,.int true .i64 (w 1 2)),(656,711,26,.int true .i64 (w 1 3)),(656,711,33,.int true .i64 (w 1 4)),(656,711,48,.int true .i64 (w 1 5)),(712,761,28,.int true .i64 (w 1 6)),(712,761,22,.int true .i64 (w 1 1)),(712,761,26,.int true .i64 (w 1 7)),(712,761,33,.int true .i64 (w 1 8)),(712,761,48,.int true .i64 (w 1 9)),(762,781,56,.int true .i64 (w 1 0)),(762,781,57,.int true .i64 (w 1 10)),(768,778,64,.bool false false),(768,787,152,.int true .i64 (w 1 16))]),(1039,[(895,895,128,.bool false true),(896,913,137,.int true .i64 (w 2 2)),(908,963,26,.int true .i64 (w 2 3)),(908,963,33,.int true .i64 (w 2 4)),(908,963,48,.int true .i64 (w 2 5)),(964,1013,28,.int true .i64 (w 2 6)),(964,1013,22,.int true .i64 (w 2 1)),(964,1013,26,.int true .i64 (w 2 7)),(964,1013,33,.int true .i64 (w 2 8)),(964,1013,48,.int true .i64 (w 2 9)),(1014,1033,56,.int true .i64 (w 2 0)),(1014,1033,57,.int true .i64 (w 2 10)),(1020,1030,64,.bool false false),(1020,1039,152,.int true .i64 (w 2 16))]),(1291,[(1147,1147,128,.bool false true),(1148,1165,137,.int true .i64 (w 3 2)),(1160,1215,26,.int true .i64 (w 3 3)),(1160,1215,33,.int true .i64 (w 3 4)),(1160,1215,48,.int true .i64 (w 3 5)),(1216,1265,28,.int true .i64 (w 3 6)),(1216,1265,22,.int true .i64 (w 3 1)),(1216,1265,26,.int true .i64 (w 3 7)),(1216,1265,33,.int true .i64 (w 3 8)),(1216,1265,48,.int true .i64 (w 3 9)),(1266,1285,56,.int true .i64 (w 3 0)),(1266,1285,57,.int true .i64 (w 3 10)),(1272,1282,64,.bool false false),(1272,1291,152,.int true .i64 (w 3 16))]),(1543,[(1399,1399,128,.bool false true),(1400,1417,137,.int true .i64 (w 4 2)),(1412,1467,26,.int true .i64 (w 4 3)),(1412,1467,33,.int true .i64 (w 4 4)),(1412,1467,48,.int true .i64 (w 4 5)),(1468,1517,28,.int true .i64 (w 4 6)),(1468,1517,22,.int true .i64 (w 4 1)),(1468,1517,26,.int true .i64 (w 4 7)),(1468,1517,33,.int true .i64 (w 4 8)),(1468,1517,48,.int true .i64 (w 4 9)),(1518,1537,56,.int true .i64 (w 4 0)),(1518,1537,57,.int true .i64 (w 4 10)),(1524,1534,64,.bool false false),(1524,1543,152,.int true .i64 (w 4 16))])]
def oT6 (w:Nat->Nat->Int):List (Nat×Nat×AV):=[(290,72,.int true .i64 (w 0 0)),(298,80,.int true .i64 (w 0 1)),(542,72,.int true .i64 (w 1 0)),(550,80,.int true .i64 (w 1 1)),(794,72,.int true .i64 (w 2 0)),(802,80,.int true .i64 (w 2 1)),(1046,72,.int true .i64 (w 3 0)),(1054,80,.int true .i64 (w 3 1)),(1298,72,.int true .i64 (w 4 0)),(1306,80,.int true .i64 (w 4 1))]
noncomputable def WL (w:Nat->Nat->Int):Ctx:={ cZ with hint:=Ai (oR6 w++[(1607,[(1550,1568,4,.int false .i64 2),(1550,1568,9,.int false .i64 2),(1550,1568,17,.int false .i64 2),(1550,1568,14,.bool false true),(1569,1587,4,.int false .i64 1),(1569,1587,9,.int false .i64 1),(1569,1587,17,.int false .i64 1),(1569,1587,14,.bool false true),(1588,1606,4,.int false .i64 0),(1588,1606,9,.int false .i64 0),(1588,1606,17,.int false .i64 0)]),(1813,[(1613,1631,4,.int false .i64 5),(1613,1631,9,.int false .i64 5),(1613,1631,17,.int false .i64 5),(1613,1631,14,.bool false false)])]),hintT:=hTL (oT6 w) }
theorem PS (w:Nat->Nat->Int):CtxOk (WL w):=⟨aK.prog,aK.con,aK.ext,fun fr a s q e=>aK.loop fr a s q e,aK.two⟩
noncomputable def PT (w:Nat->Nat->Int):Ctx:=ax (ax (ax (WL w) 74 3) 74 8) 86 8
theorem PU (w:Nat->Nat->Int):CtxOk (PT w):=aj (aj (aj (PS w) _ _) _ _) _ _
noncomputable def WM (w:Nat->Nat->Int):Ctx:={ cZ with hint:=Ai (oR6 w++[(1588,[(1550,1568,4,.int false .i64 2),(1550,1568,9,.int false .i64 2),(1550,1568,17,.int false .i64 2),(1550,1568,14,.bool false true),(1569,1587,4,.int false .i64 1),(1569,1587,9,.int false .i64 1),(1569,1587,17,.int false .i64 1),(1569,1587,14,.bool false false)]),(1794,[(1594,1612,4,.int false .i64 5),(1594,1612,9,.int false .i64 5),(1594,1612,17,.int false .i64 5),(1594,1612,14,.bool false false)])]),hintT:=hTL (oT6 w) }
theorem PW (w:Nat->Nat->Int):CtxOk (WM w):=⟨aK.prog,aK.con,aK.ext,fun fr a s q e=>aK.loop fr a s q e,aK.two⟩
noncomputable def PX (w:Nat->Nat->Int):Ctx:=ax (ax (ax (WM w) 74 3) 74 8) 86 8
theorem PY (w:Nat->Nat->Int):CtxOk (PX w):=aj (aj (aj (PW w) _ _) _ _) _ _
noncomputable def WN (w:Nat->Nat->Int):Ctx:={ cZ with hint:=Ai (oR6 w++[(1569,[(1550,1568,4,.int false .i64 2),(1550,1568,9,.int false .i64 2),(1550,1568,17,.int false .i64 2),(1550,1568,14,.bool false false)]),(1775,[(1575,1593,4,.int false .i64 5),(1575,1593,9,.int false .i64 5),(1575,1593,17,.int false .i64 5),(1575,1593,14,.bool false false)])]),hintT:=hTL (oT6 w) }
theorem PZ (w:Nat->Nat->Int):CtxOk (WN w):=⟨aK.prog,aK.con,aK.ext,fun fr a s q e=>aK.loop fr a s q e,aK.two⟩
noncomputable def P5 (w:Nat->Nat->Int):Ctx:=ax (ax (ax (WN w) 74 3) 74 8) 86 8
theorem P6 (w:Nat->Nat->Int):CtxOk (P5 w):=aj (aj (aj (PZ w) _ _) _ _) _ _
def oR7 (w:Nat->Nat->Int):List (Nat×List (Nat×Nat×Nat×AV)):=[(307,[(0,10,17,.int false .i64 2),(11,31,18,.bool false false),(20,31,43,.int false .i64 4),(32,218,11,.int false .i64 7),(219,288,11,.int false .i64 2),(32,218,15,.int false .i64 7),(219,288,15,.int false .i64 2),(32,218,36,.int false .i64 7),(219,288,36,.int false .i64 2),(42,65,29,.int true .i64 (w 20 0)),(42,65,31,.int true .i64 (w 21 0)),(66,89,29,.int true .i64 (w 20 1)),(66,89,31,.int true .i64 (w 21 1)),(90,113,29,.int true .i64 (w 20 2)),(90,113,31,.int true .i64 (w 21 2)),(114,137,29,.int true .i64 (w 20 3)),(114,137,31,.int true .i64 (w 21 3)),(138,161,29,.int true .i64 (w 20 4)),(138,161,31,.int true .i64 (w 21 4)),(162,185,29,.int true .i64 (w 20 5)),(162,185,31,.int true .i64 (w 21 5)),(186,209,29,.int true .i64 (w 20 6)),(186,209,31,.int true .i64 (w 21 6)),(230,253,20,.int false .i64 294967296),(254,277,20,.int false .i64 4),(289,307,61,.int false .i64 6)]),(559,[(415,415,128,.bool false true),(416,433,137,.int true .i64 (w 0 2)),(428,483,26,.int true .i64 (w 0 3)),(428,483,33,.int true .i64 (w 0 4)),(428,483,48,.int true .i64 (w 0 5)),(484,533,28,.int true .i64 (w 0 6)),(484,533,22,.int true .i64 (w 0 1)),(484,533,26,.int true .i64 (w 0 7)),(484,533,33,.int true .i64 (w 0 8)),(484,533,48,.int true .i64 (w 0 9)),(534,553,56,.int true .i64 (w 0 0)),(534,553,57,.int true .i64 (w 0 10)),(540,550,64,.bool false false),(540,559,152,.int true .i64 (w 0 16))]),(811,[(667,667,128,.bool false true),(668,685,137,.int true .i64 (w 1 2)),(680,735,26,.int true .i64 (w 1 3)),(680,735,33,.int true .i64 (w 1 4)),(680,735,48,.int true .i64 (w 1 5)),(736,785,28,.int true .i64 (w 1 6)),(736,785,22,.int true .i64 (w 1 1)),(736,785,26,.int true .i64 (w 1 7)),(736,785,33,.int true .i64 (w 1 8)),(736,785,48,.int true .i64 (w 1 9)),(786,805,56,.int true .i64 (w 1 0)),(786,805,57,.int true .i64 (w 1 10)),(792,802,64,.bool false false),(792,811,152,.int true .i64 (w 1 16))]),(1063,[(919,919,128,.bool false true),(920,937,137,.int true .i64 (w 2 2)),(932,987,26,.int true .i64 (w 2 3)),(932,987,33,.int true .i64 (w 2 4)),(932,987,48,.int true .i64 (w 2 5)),(988,1037,28,.int true .i64 (w 2 6)),(988,1037,22,.int true .i64 (w 2 1)),(988,1037,26,.int true .i64 (w 2 7)),(988,1037,33,.int true .i64 (w 2 8)),(988,1037,48,.int true .i64 (w 2 9)),(1038,1057,56,.int true .i64 (w 2 0)),(1038,1057,57,.int true .i64 (w 2 10)),(1044,1054,64,.bool false false),(1044,1063,152,.int true .i64 (w 2 16))]),(1315,[(1171,1171,128,.bool false true),(1172,1189,137,.int true .i64 (w 3 2)),(1184,1239,26,.int true .i64 (w 3 3)),(1184,1239,33,.int true .i64 (w 3 4)),(1184,1239,48,.int true .i64 (w 3 5)),(1240,1289,28,.int true .i64 (w 3 6)),(1240,1289,22,.int true .i64 (w 3 1)),(1240,1289,26,.int true .i64 (w 3 7)),(1240,1289,33,.int true .i64 (w 3 8)),(1240,1289,48,.int true .i64 (w 3 9)),(1290,1309,56,.int true .i64 (w 3 0)),(1290,1309,57,.int true .i64 (w 3 10)),(1296,1306,64,.bool false false),(1296,1315,152,.int true .i64 (w 3 16))]),(1567,[(1423,1423,128,.bool false true),(1424,1441,137,.int true .i64 (w 4 2)),(1436,1491,26,.int true .i64 (w 4 3)),(1436,1491,33,.int true .i64 (w 4 4)),(1436,1491,48,.int true .i64 (w 4 5)),(1492,1541,28,.int true .i64 (w 4 6)),(1492,1541,22,.int true .i64 (w 4 1)),(1492,1541,26,.int true .i64 (w 4 7)),(1492,1541,33,.int true .i64 (w 4 8)),(1492,1541,48,.int true .i64 (w 4 9)),(1542,1561,56,.int true .i64 (w 4 0)),(1542,1561,57,.int true .i64 (w 4 10)),(1548,1558,64,.bool false false),(1548,1567,152,.int true .i64 (w 4 16))]),(1819,[(1675,1675,128,.bool false true),(1676,1693,137,.int true .i64 (w 5 2)),(1688,1743,26,.int true .i64 (w 5 3)),(1688,1743,33,.int true .i64 (w 5 4)),(1688,1743,48,.int true .i64 (w 5 5)),(1744,1793,28,.int true .i64 (w 5 6)),(1744,1793,22,.int true .i64 (w 5 1)),(1744,1793,26,.int true .i64 (w 5 7)),(1744,1793,33,.int true .i64 (w 5 8)),(1744,1793,48,.int true .i64 (w 5 9)),(1794,1813,56,.int true .i64 (w 5 0)),(1794,1813,57,.int true .i64 (w 5 10)),(1800,1810,64,.bool false false),(1800,1819,152,.int true .i64 (w 5 16))])]
def oT7 (w:Nat->Nat->Int):List (Nat×Nat×AV):=[(314,72,.int true .i64 (w 0 0)),(322,80,.int true .i64 (w 0 1)),(566,72,.int true .i64 (w 1 0)),(574,80,.int true .i64 (w 1 1)),(818,72,.int true .i64 (w 2 0)),(826,80,.int true .i64 (w 2 1)),(1070,72,.int true .i64 (w 3 0)),(1078,80,.int true .i64 (w 3 1)),(1322,72,.int true .i64 (w 4 0)),(1330,80,.int true .i64 (w 4 1)),(1574,72,.int true .i64 (w 5 0)),(1582,80,.int true .i64 (w 5 1))]
noncomputable def WO (w:Nat->Nat->Int):Ctx:={ cZ with hint:=Ai (oR7 w++[(1883,[(1826,1844,4,.int false .i64 2),(1826,1844,9,.int false .i64 2),(1826,1844,17,.int false .i64 2),(1826,1844,14,.bool false true),(1845,1863,4,.int false .i64 1),(1845,1863,9,.int false .i64 1),(1845,1863,17,.int false .i64 1),(1845,1863,14,.bool false true),(1864,1882,4,.int false .i64 0),(1864,1882,9,.int false .i64 0),(1864,1882,17,.int false .i64 0)]),(2089,[(1889,1907,4,.int false .i64 6),(1889,1907,9,.int false .i64 6),(1889,1907,17,.int false .i64 6),(1889,1907,14,.bool false false)])]),hintT:=hTL (oT7 w) }
theorem P7 (w:Nat->Nat->Int):CtxOk (WO w):=⟨aK.prog,aK.con,aK.ext,fun fr a s q e=>aK.loop fr a s q e,aK.two⟩
noncomputable def P8 (w:Nat->Nat->Int):Ctx:=ax (ax (ax (WO w) 74 3) 74 8) 86 8
theorem P9 (w:Nat->Nat->Int):CtxOk (P8 w):=aj (aj (aj (P7 w) _ _) _ _) _ _
noncomputable def WP (w:Nat->Nat->Int):Ctx:={ cZ with hint:=Ai (oR7 w++[(1883,[(1826,1844,4,.int false .i64 2),(1826,1844,9,.int false .i64 2),(1826,1844,17,.int false .i64 2),(1826,1844,14,.bool false true),(1845,1863,4,.int false .i64 1),(1845,1863,9,.int false .i64 1),(1845,1863,17,.int false .i64 1),(1845,1863,14,.bool false true),(1864,1882,4,.int false .i64 0),(1864,1882,9,.int false .i64 0),(1864,1882,17,.int false .i64 0)]),(2089,[(1889,1907,4,.int false .i64 6),(1889,1907,9,.int false .i64 6),(1889,1907,17,.int false .i64 6),(1889,1907,14,.bool false true),(1908,1926,4,.int false .i64 5),(1908,1926,9,.int false .i64 5),(1908,1926,17,.int false .i64 5),(1908,1926,14,.bool false false)])]),hintT:=hTL (oT7 w) }
theorem Qa (w:Nat->Nat->Int):CtxOk (WP w):=⟨aK.prog,aK.con,aK.ext,fun fr a s q e=>aK.loop fr a s q e,aK.two⟩
noncomputable def Qb (w:Nat->Nat->Int):Ctx:=ax (ax (ax (WP w) 74 3) 74 8) 86 8
theorem Qc (w:Nat->Nat->Int):CtxOk (Qb w):=aj (aj (aj (Qa w) _ _) _ _) _ _
noncomputable def WQ (w:Nat->Nat->Int):Ctx:={ cZ with hint:=Ai (oR7 w++[(1864,[(1826,1844,4,.int false .i64 2),(1826,1844,9,.int false .i64 2),(1826,1844,17,.int false .i64 2),(1826,1844,14,.bool false true),(1845,1863,4,.int false .i64 1),(1845,1863,9,.int false .i64 1),(1845,1863,17,.int false .i64 1),(1845,1863,14,.bool false false)]),(2070,[(1870,1888,4,.int false .i64 6),(1870,1888,9,.int false .i64 6),(1870,1888,17,.int false .i64 6),(1870,1888,14,.bool false false)])]),hintT:=hTL (oT7 w) }
theorem Qd (w:Nat->Nat->Int):CtxOk (WQ w):=⟨aK.prog,aK.con,aK.ext,fun fr a s q e=>aK.loop fr a s q e,aK.two⟩
noncomputable def Qe (w:Nat->Nat->Int):Ctx:=ax (ax (ax (WQ w) 74 3) 74 8) 86 8
theorem Qf (w:Nat->Nat->Int):CtxOk (Qe w):=aj (aj (aj (Qd w) _ _) _ _) _ _
noncomputable def WR (w:Nat->Nat->Int):Ctx:={ cZ with hint:=Ai (oR7 w++[(1864,[(1826,1844,4,.int false .i64 2),(1826,1844,9,.int false .i64 2),(1826,1844,17,.int false .i64 2),(1826,1844,14,.bool false true),(1845,1863,4,.int false .i64 1),(1845,1863,9,.int false .i64 1),(1845,1863,17,.int false .i64 1),(1845,1863,14,.bool false false)]),(2070,[(1870,1888,4,.int false .i64 6),(1870,1888,9,.int false .i64 6),(1870,1888,17,.int false .i64 6),(1870,1888,14,.bool false true),(1889,1907,4,.int false .i64 5),(1889,1907,9,.int false .i64 5),(1889,1907,17,.int false .i64 5),(1889,1907,14,.bool false false)])]),hintT:=hTL (oT7 w) }
theorem Qg (w:Nat->Nat->Int):CtxOk (WR w):=⟨aK.prog,aK.con,aK.ext,fun fr a s q e=>aK.loop fr a s q e,aK.two⟩
noncomputable def Qh (w:Nat->Nat->Int):Ctx:=ax (ax (ax (WR w) 74 3) 74 8) 86 8
theorem Qi (w:Nat->Nat->Int):CtxOk (Qh w):=aj (aj (aj (Qg w) _ _) _ _) _ _
noncomputable def WS (w:Nat->Nat->Int):Ctx:={ cZ with hint:=Ai (oR7 w++[(1845,[(1826,1844,4,.int false .i64 2),(1826,1844,9,.int false .i64 2),(1826,1844,17,.int false .i64 2),(1826,1844,14,.bool false false)]),(2051,[(1851,1869,4,.int false .i64 6),(1851,1869,9,.int false .i64 6),(1851,1869,17,.int false .i64 6),(1851,1869,14,.bool false false)])]),hintT:=hTL (oT7 w) }
theorem Qj (w:Nat->Nat->Int):CtxOk (WS w):=⟨aK.prog,aK.con,aK.ext,fun fr a s q e=>aK.loop fr a s q e,aK.two⟩
noncomputable def Qk (w:Nat->Nat->Int):Ctx:=ax (ax (ax (WS w) 74 3) 74 8) 86 8
theorem Ql (w:Nat->Nat->Int):CtxOk (Qk w):=aj (aj (aj (Qj w) _ _) _ _) _ _
noncomputable def WT (w:Nat->Nat->Int):Ctx:={ cZ with hint:=Ai (oR7 w++[(1845,[(1826,1844,4,.int false .i64 2),(1826,1844,9,.int false .i64 2),(1826,1844,17,.int false .i64 2),(1826,1844,14,.bool false false)]),(2051,[(1851,1869,4,.int false .i64 6),(1851,1869,9,.int false .i64 6),(1851,1869,17,.int false .i64 6),(1851,1869,14,.bool false true),(1870,1888,4,.int false .i64 5),(1870,1888,9,.int false .i64 5),(1870,1888,17,.int false .i64 5),(1870,1888,14,.bool false false)])]),hintT:=hTL (oT7 w) }
theorem Qm (w:Nat->Nat->Int):CtxOk (WT w):=⟨aK.prog,aK.con,aK.ext,fun fr a s q e=>aK.loop fr a s q e,aK.two⟩
noncomputable def Qn (w:Nat->Nat->Int):Ctx:=ax (ax (ax (WT w) 74 3) 74 8) 86 8
theorem Qo (w:Nat->Nat->Int):CtxOk (Qn w):=aj (aj (aj (Qm w) _ _) _ _) _ _
end
end Go.Proofs.YtbiiiloimbjpaaaDoor.K
