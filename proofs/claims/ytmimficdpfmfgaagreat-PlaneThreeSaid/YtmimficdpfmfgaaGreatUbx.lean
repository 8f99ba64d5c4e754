/- Laws for the walk. -/
import Derived.Test.YtmimficdpfmfgaaGreatUbw
set_option linter.unusedVariables false
set_option linter.unusedSimpArgs false
set_option maxHeartbeats 4000000
set_option maxRecDepth 100000
namespace Go.Proofs.YtmimficdpfmfgaaGreat
open Go.RowKit Tr
open Classical
theorem Qbx:FnsOk Tryz.prog [⟨119,Tryz.f119,2000⟩,⟨70,Tryz.f70,2000⟩,⟨167,Tryz.f167,2000⟩,⟨244,Tryz.f244,2000⟩,⟨245,Tryz.f245,2000⟩,⟨81,Tryz.f81,2000⟩,⟨121,Tryz.f121,2000⟩,⟨99,Tryz.f99,2000⟩]:=(fs119 (fs70 (fs167 (fs244 (fs245 (fs81 (fs121 (fs99 .nil))))))))
theorem no_BN(p:Int)(z x w:Qbp)(hp1:¬(p=1))(hp2:¬(p=2)):SCt 55 [.c (gxi p),.row (z.cells),.row (x.cells),.row (w.cells)] (.tup [gFf,gIi 2]) :=
  Qai (L := [[gxi p],z.cells,x.cells,w.cells].flatten) Qad Qag
     []
     [bI .eql 22 (.sym 0) (li 1) p 1 false (by simp[Qdn,hp1]),bI .eql 22 (.sym 0) (li 2) p 2 false (by simp[Qdn,hp2])] [] Qbx 1 3 Tryz.func55 eo55 2000 [cS 0,yR 1 8,yR 9 8,yR 17 8] (.tup [cFf,lc 2])
theorem no_GN(p:Int)(x z w:Qbp)(hp1:¬(p=1))(hp2:¬(p=2)):SCt 56 [.c (gxi p),.row (x.cells),.row (z.cells),.row (w.cells)] (.tup [.row (zFG),gIi 0,gIi 2]) :=
  Qai (L := [[gxi p],x.cells,z.cells,w.cells].flatten) Qad Qag
     []
     [bI .eql 22 (.sym 0) (li 1) p 1 false (by simp[Qdn,hp1]),bI .eql 22 (.sym 0) (li 2) p 2 false (by simp[Qdn,hp2])] [] Qbx 1 3 Tryz.func56 eo56 2000 [cS 0,yR 1 8,yR 9 8,yR 17 8] (.tup [.row (zFA),lc 0,lc 2])
theorem Qcu:FnsOk Tryz.prog [⟨13,Tryz.f13,2000⟩,⟨96,Tryz.f96,2000⟩,⟨136,Tryz.f136,2000⟩,⟨138,Tryz.f138,2000⟩]:=(fs13 (fs96 (fs136 (fs138 .nil))))
theorem no_PN(p:Int)(x z w:Qbp)(hp1:¬(p=1))(hp2:¬(p=2)):SMt 29 [(x.cells++z.cells++w.cells,28)] [.f (.c (gxi p)),.sl 0 0 3 3] (.r (gIi 2)) :=
  Qcb (L := [[gxi p],x.cells,z.cells,w.cells].flatten) Qad Qag
     []
     [bI .eql 22 (.sym 0) (li 1) p 1 false (by simp[Qdn,hp1]),bI .eql 22 (.sym 0) (li 2) p 2 false (by simp[Qdn,hp2])] [] Qcu 1 3 Tryz.func29 eo29 2000 [⟨Qav 1 24,28,none⟩] [cS 0,.c (.sl 0 0 3 3)] (.r (lc 2))
theorem no_NN(p:Int)(x:Qbp)(hp1:¬(p=1))(hp2:¬(p=2)):SMt 29 [(x.cells,28)] [.f (.c (gxi p)),.sl 0 0 1 1] (.r (gIi 2)) :=
  Qcb (L := [[gxi p],x.cells].flatten) Qad Qag
     []
     [bI .eql 22 (.sym 0) (li 1) p 1 false (by simp[Qdn,hp1]),bI .eql 22 (.sym 0) (li 2) p 2 false (by simp[Qdn,hp2])] [] Qcu 1 3 Tryz.func29 eo29 2000 [⟨Qav 1 8,28,none⟩] [cS 0,.c (.sl 0 0 1 1)] (.r (lc 2))
theorem no_AN(p:Int)(x:Qbp)(y:Qdg)(b_y:y.Sz)(hp1:¬(p=1))(hp2:¬(p=2)):SCt 54 [.c (gxi p),.row (x.cells),.row (y.cells)] (.tup [.row (zGG++zGG),gIi 2]) :=
  Qai (L := [[gxi p],x.cells,y.cells,[ga]].flatten) Qad Qag
     [gs (pERatA y b_y) [yR 9 4] (rS 13)]
     [bI .eql 22 (.sym 0) (li 1) p 1 false (by simp[Qdn,hp1]),bI .eql 22 (.sym 0) (li 2) p 2 false (by simp[Qdn,hp2])] [] Qbx 1 3 Tryz.func54 eo54 2000 [cS 0,yR 1 8,yR 9 4] (.tup [.row (flA [zGA,zGA]),lc 2])
theorem no_B1_0(z x w:Qbp)(b_z:Qbp.Sz z)(nk:¬(GOk z.val)):SCt 55 [gIi 1,.row (z.cells),.row (x.cells),.row (w.cells)] (.tup [gFf,gIi 2]) :=
  Qai (L := [z.cells,x.cells,w.cells,(Qae (⟨0,1⟩ : QC)).cells,(Qae (⟨0,0⟩ : QC)).cells,[ga,ga]].flatten) Qad Qag
     [gpi 0 1 24,gpi 0 0 32,gs (pEOfR z b_z false (fI nk)) [yR 0 8] (.tup [sy [40,41],cFf])]
     [] [] Qbx 1 3 Tryz.func55 eo55 2000 [lc 1,yR 0 8,yR 8 8,yR 16 8] (.tup [cFf,lc 2])
def no_B1_1_L(z:QC)(x w:Qbp):List GF:=[(Qae z).cells,x.cells,w.cells,(Qae (⟨0,1⟩:QC)).cells,(Qae (⟨0,0⟩:QC)).cells,cn z,[gr z.re],[gr z.im],[gxi z.im.num.sign],[ga,ga]].flatten
noncomputable def no_B1_1_T1(z:QC)(x w:Qbp)(b_z:Qab z)(b_x:Qbp.Sz x)(nk:¬(GOk x.val)):List (GC Tryz.prog (no_B1_1_L z x w) true):=[gpi 0 1 24,gpi 0 0 32,gs (Qcg z b_z) [yR 0 8] (.tup [sy [40,41],cTt]),gs (Qba z ((Qaa b_z).mn)) [sy [40,41]] (.tup [cS 42,cS 43]),gs (Qal z.im) [cS 43] (rS 44),gs (pEOfR x b_x false (fI nk)) [yR 8 8] (.tup [sy [45,46],cFf])]
theorem no_B1_1(z:QC)(x w:Qbp)(b_z:Qab z)(b_x:Qbp.Sz x)(b_w:Qbp.Sz w)(nk:¬(GOk x.val)):SCt 55 [gIi 1,.row ((Qae z).cells),.row (x.cells),.row (w.cells)] (.tup [gFf,gIi 2]) :=
  (Classical.em (z.im.num.sign ≤ 0)).elim (fun h0 => Qai (L := no_B1_1_L z x w) Qad Qag
     (no_B1_1_T1 z x w b_z b_x nk)
     [bLt 3 44 h0] [] Qbx 1 3 Tryz.func55 eo55 2000 [lc 1,yR 0 8,yR 8 8,yR 16 8] (.tup [cFf,lc 2]))
   (fun h0=>Qai (L:=no_B1_1_L z x w) Qad Qag
     (no_B1_1_T1 z x w b_z b_x nk)
     [bLf 3 44 h0] [] Qbx 1 3 Tryz.func55 eo55 2000 [lc 1,yR 0 8,yR 8 8,yR 16 8] (.tup [cFf,lc 2]))
def no_B1_2_L(z x:QC)(w:Qbp):List GF:=[(Qae z).cells,(Qae x).cells,w.cells,(Qae (⟨0,1⟩:QC)).cells,(Qae (⟨0,0⟩:QC)).cells,cn z,[gr z.re],[gr z.im],[gxi z.im.num.sign],cn x,[gr x.re],[gr x.im],[gxi x.im.num.sign],[ga,ga]].flatten
noncomputable def no_B1_2_T1(z x:QC)(w:Qbp)(b_z:Qab z)(b_x:Qab x)(b_w:Qbp.Sz w)(nk:¬(GOk w.val)):List (GC Tryz.prog (no_B1_2_L z x w) true):=[gpi 0 1 24,gpi 0 0 32,gs (Qcg z b_z) [yR 0 8] (.tup [sy [40,41],cTt]),gs (Qba z ((Qaa b_z).mn)) [sy [40,41]] (.tup [cS 42,cS 43]),gs (Qal z.im) [cS 43] (rS 44),gs (Qcg x b_x) [yR 8 8] (.tup [sy [45,46],cTt]),gs (Qba x ((Qaa b_x).mn)) [sy [45,46]] (.tup [cS 47,cS 48]),gs (Qal x.im) [cS 48] (rS 49),gs (pEOfR w b_w false (fI nk)) [yR 16 8] (.tup [sy [50,51],cFf])]
theorem no_B1_2(z x:QC)(w:Qbp)(b_z:Qab z)(b_x:Qab x)(b_w:Qbp.Sz w)(nk:¬(GOk w.val)):SCt 55 [gIi 1,.row ((Qae z).cells),.row ((Qae x).cells),.row (w.cells)] (.tup [gFf,gIi 2]) :=
  (Classical.em (z.im.num.sign ≤ 0)).elim (fun h0 => (Classical.em (x.im.num.sign ≤ 0)).elim (fun h1 => Qai (L := no_B1_2_L z x w) Qad Qag
     (no_B1_2_T1 z x w b_z b_x b_w nk)
     [bLt 3 44 h0,bLt 3 49 h1] [] Qbx 1 3 Tryz.func55 eo55 2000 [lc 1,yR 0 8,yR 8 8,yR 16 8] (.tup [cFf,lc 2]))
   (fun h1=>Qai (L:=no_B1_2_L z x w) Qad Qag
     (no_B1_2_T1 z x w b_z b_x b_w nk)
     [bLt 3 44 h0,bLf 3 49 h1] [] Qbx 1 3 Tryz.func55 eo55 2000 [lc 1,yR 0 8,yR 8 8,yR 16 8] (.tup [cFf,lc 2])))
   (fun h0=>(Classical.em (x.im.num.sign≤0)).elim (fun h1=>Qai (L:=no_B1_2_L z x w) Qad Qag
     (no_B1_2_T1 z x w b_z b_x b_w nk)
     [bLf 3 44 h0,bLt 3 49 h1] [] Qbx 1 3 Tryz.func55 eo55 2000 [lc 1,yR 0 8,yR 8 8,yR 16 8] (.tup [cFf,lc 2]))
   (fun h1=>Qai (L:=no_B1_2_L z x w) Qad Qag
     (no_B1_2_T1 z x w b_z b_x b_w nk)
     [bLf 3 44 h0,bLf 3 49 h1] [] Qbx 1 3 Tryz.func55 eo55 2000 [lc 1,yR 0 8,yR 8 8,yR 16 8] (.tup [cFf,lc 2])))
def Qhn(z x w:QC):List GF:=[(Qae z).cells,(Qae x).cells,(Qae w).cells,(Qae (⟨0,1⟩:QC)).cells,(Qae (⟨0,0⟩:QC)).cells,cn z,[gr z.re],[gr z.im],[gxi z.im.num.sign],cn x,[gr x.re],[gr x.im],[gxi x.im.num.sign],cn w,[gr w.re],[gr w.im],[gxi w.im.num.sign]].flatten
noncomputable def Qid(z x w:QC)(b_z:Qab z)(b_x:Qab x)(b_w:Qab w):List (GC Tryz.prog (Qhn z x w) true):=[gpi 0 1 24,gpi 0 0 32,gs (Qcg z b_z) [yR 0 8] (.tup [sy [40,41],cTt]),gs (Qba z ((Qaa b_z).mn)) [sy [40,41]] (.tup [cS 42,cS 43]),gs (Qal z.im) [cS 43] (rS 44),gs (Qcg x b_x) [yR 8 8] (.tup [sy [45,46],cTt]),gs (Qba x ((Qaa b_x).mn)) [sy [45,46]] (.tup [cS 47,cS 48]),gs (Qal x.im) [cS 48] (rS 49),gs (Qcg w b_w) [yR 16 8] (.tup [sy [50,51],cTt]),gs (Qba w ((Qaa b_w).mn)) [sy [50,51]] (.tup [cS 52,cS 53]),gs (Qal w.im) [cS 53] (rS 54)]
theorem no_B1_o0(z x w:QC)(b_z:Qab z)(b_x:Qab x)(b_w:Qab w)(hz:hO1 z):SCt 55 [gIi 1,.row ((Qae z).cells),.row ((Qae x).cells),.row ((Qae w).cells)] (.tup [gFf,gIi 350]) :=
  (Classical.em (x.im.num.sign ≤ 0)).elim (fun h0 => (Classical.em (w.im.num.sign ≤ 0)).elim (fun h1 => Qai (L := Qhn z x w) Qad Qag
     (Qid z x w b_z b_x b_w)
     [bLt 3 44 hz,bLt 3 49 h0,bLt 3 54 h1] [] Qbx 1 3 Tryz.func55 eo55 2000 [lc 1,yR 0 8,yR 8 8,yR 16 8] (.tup [cFf,lc 350]))
   (fun h1=>Qai (L:=Qhn z x w) Qad Qag
     (Qid z x w b_z b_x b_w)
     [bLt 3 44 hz,bLt 3 49 h0,bLf 3 54 h1] [] Qbx 1 3 Tryz.func55 eo55 2000 [lc 1,yR 0 8,yR 8 8,yR 16 8] (.tup [cFf,lc 350])))
   (fun h0=>(Classical.em (w.im.num.sign≤0)).elim (fun h1=>Qai (L:=Qhn z x w) Qad Qag
     (Qid z x w b_z b_x b_w)
     [bLt 3 44 hz,bLf 3 49 h0,bLt 3 54 h1] [] Qbx 1 3 Tryz.func55 eo55 2000 [lc 1,yR 0 8,yR 8 8,yR 16 8] (.tup [cFf,lc 350]))
   (fun h1=>Qai (L:=Qhn z x w) Qad Qag
     (Qid z x w b_z b_x b_w)
     [bLt 3 44 hz,bLf 3 49 h0,bLf 3 54 h1] [] Qbx 1 3 Tryz.func55 eo55 2000 [lc 1,yR 0 8,yR 8 8,yR 16 8] (.tup [cFf,lc 350])))
def no_B1_o1_L(z x w:QC):List GF:=[(Qae z).cells,(Qae x).cells,(Qae w).cells,(Qae (⟨0,1⟩:QC)).cells,(Qae (⟨0,0⟩:QC)).cells,cn z,[gr z.re],[gr z.im],[gxi z.im.num.sign],cn x,[gr x.re],[gr x.im],[gxi x.im.num.sign],cn w,[gr w.re],[gr w.im],[gxi w.im.num.sign]].flatten
noncomputable def no_B1_o1_T1(z x w:QC)(b_z:Qab z)(b_x:Qab x)(b_w:Qab w):List (GC Tryz.prog (no_B1_o1_L z x w) true):=[gpi 0 1 24,gpi 0 0 32,gs (Qcg z b_z) [yR 0 8] (.tup [sy [40,41],cTt]),gs (Qba z ((Qaa b_z).mn)) [sy [40,41]] (.tup [cS 42,cS 43]),gs (Qal z.im) [cS 43] (rS 44),gs (Qcg x b_x) [yR 8 8] (.tup [sy [45,46],cTt]),gs (Qba x ((Qaa b_x).mn)) [sy [45,46]] (.tup [cS 47,cS 48]),gs (Qal x.im) [cS 48] (rS 49),gs (Qcg w b_w) [yR 16 8] (.tup [sy [50,51],cTt]),gs (Qba w ((Qaa b_w).mn)) [sy [50,51]] (.tup [cS 52,cS 53]),gs (Qal w.im) [cS 53] (rS 54)]
theorem no_B1_o1(z x w:QC)(b_z:Qab z)(b_x:Qab x)(b_w:Qab w)(hz:hN1 z)(hx:hO1 x):SCt 55 [gIi 1,.row ((Qae z).cells),.row ((Qae x).cells),.row ((Qae w).cells)] (.tup [gFf,gIi 350]) :=
  (Classical.em (w.im.num.sign ≤ 0)).elim (fun h0 => Qai (L := no_B1_o1_L z x w) Qad Qag
     (no_B1_o1_T1 z x w b_z b_x b_w)
     [bLf 3 44 hz,bLt 3 49 hx,bLt 3 54 h0] [] Qbx 1 3 Tryz.func55 eo55 2000 [lc 1,yR 0 8,yR 8 8,yR 16 8] (.tup [cFf,lc 350]))
   (fun h0=>Qai (L:=no_B1_o1_L z x w) Qad Qag
     (no_B1_o1_T1 z x w b_z b_x b_w)
     [bLf 3 44 hz,bLt 3 49 hx,bLf 3 54 h0] [] Qbx 1 3 Tryz.func55 eo55 2000 [lc 1,yR 0 8,yR 8 8,yR 16 8] (.tup [cFf,lc 350]))
theorem no_B1_o2(z x w:QC)(b_z:Qab z)(b_x:Qab x)(b_w:Qab w)(hz:hN1 z)(hx:hN1 x)(hw:hO1 w):SCt 55 [gIi 1,.row ((Qae z).cells),.row ((Qae x).cells),.row ((Qae w).cells)] (.tup [gFf,gIi 350]) :=
  Qai (L := [(Qae z).cells,(Qae x).cells,(Qae w).cells,(Qae (⟨0,1⟩ : QC)).cells,(Qae (⟨0,0⟩ : QC)).cells,cn z,[gr z.re],[gr z.im],[gxi z.im.num.sign],cn x,[gr x.re],[gr x.im],[gxi x.im.num.sign],cn w,[gr w.re],[gr w.im],[gxi w.im.num.sign]].flatten) Qad Qag
     [gpi 0 1 24,gpi 0 0 32,gs (Qcg z b_z) [yR 0 8] (.tup [sy [40,41],cTt]),gs (Qba z ((Qaa b_z).mn)) [sy [40,41]] (.tup [cS 42,cS 43]),gs (Qal z.im) [cS 43] (rS 44),gs (Qcg x b_x) [yR 8 8] (.tup [sy [45,46],cTt]),gs (Qba x ((Qaa b_x).mn)) [sy [45,46]] (.tup [cS 47,cS 48]),gs (Qal x.im) [cS 48] (rS 49),gs (Qcg w b_w) [yR 16 8] (.tup [sy [50,51],cTt]),gs (Qba w ((Qaa b_w).mn)) [sy [50,51]] (.tup [cS 52,cS 53]),gs (Qal w.im) [cS 53] (rS 54)]
     [bLf 3 44 hz,bLf 3 49 hx,bLt 3 54 hw] [] Qbx 1 3 Tryz.func55 eo55 2000 [lc 1,yR 0 8,yR 8 8,yR 16 8] (.tup [cFf,lc 350])
theorem no_G1_0(x z w:Qbp)(b_x:Qbp.Sz x)(nk:¬(GOk x.val)):SCt 56 [gIi 1,.row (x.cells),.row (z.cells),.row (w.cells)] (.tup [.row (zFG),gIi 0,gIi 2]) :=
  Qai (L := [x.cells,z.cells,w.cells,(Qae (⟨0,1⟩ : QC)).cells,(Qae (⟨0,0⟩ : QC)).cells,[ga,ga]].flatten) Qad Qag
     [gpi 0 1 24,gpi 0 0 32,gs (pEOfR x b_x false (fI nk)) [yR 0 8] (.tup [sy [40,41],cFf])]
     [] [] Qbx 1 3 Tryz.func56 eo56 2000 [lc 1,yR 0 8,yR 8 8,yR 16 8] (.tup [.row (zFA),lc 0,lc 2])
def no_G1_1_L(x:QC)(z w:Qbp):List GF:=[(Qae x).cells,z.cells,w.cells,(Qae (⟨0,1⟩:QC)).cells,(Qae (⟨0,0⟩:QC)).cells,cn x,[gr x.re],[gr x.im],[gxi x.im.num.sign],[ga,ga]].flatten
noncomputable def no_G1_1_T1(x:QC)(z w:Qbp)(b_x:Qab x)(b_z:Qbp.Sz z)(nk:¬(GOk z.val)):List (GC Tryz.prog (no_G1_1_L x z w) true):=[gpi 0 1 24,gpi 0 0 32,gs (Qcg x b_x) [yR 0 8] (.tup [sy [40,41],cTt]),gs (Qba x ((Qaa b_x).mn)) [sy [40,41]] (.tup [cS 42,cS 43]),gs (Qal x.im) [cS 43] (rS 44),gs (pEOfR z b_z false (fI nk)) [yR 8 8] (.tup [sy [45,46],cFf])]
theorem no_G1_1(x:QC)(z w:Qbp)(b_x:Qab x)(b_z:Qbp.Sz z)(b_w:Qbp.Sz w)(nk:¬(GOk z.val)):SCt 56 [gIi 1,.row ((Qae x).cells),.row (z.cells),.row (w.cells)] (.tup [.row (zFG),gIi 0,gIi 2]) :=
  (Classical.em (x.im.num.sign ≤ 0)).elim (fun h0 => Qai (L := no_G1_1_L x z w) Qad Qag
     (no_G1_1_T1 x z w b_x b_z nk)
     [bLt 3 44 h0] [] Qbx 1 3 Tryz.func56 eo56 2000 [lc 1,yR 0 8,yR 8 8,yR 16 8] (.tup [.row (zFA),lc 0,lc 2]))
   (fun h0=>Qai (L:=no_G1_1_L x z w) Qad Qag
     (no_G1_1_T1 x z w b_x b_z nk)
     [bLf 3 44 h0] [] Qbx 1 3 Tryz.func56 eo56 2000 [lc 1,yR 0 8,yR 8 8,yR 16 8] (.tup [.row (zFA),lc 0,lc 2]))
def no_G1_2_L(x z:QC)(w:Qbp):List GF:=[(Qae x).cells,(Qae z).cells,w.cells,(Qae (⟨0,1⟩:QC)).cells,(Qae (⟨0,0⟩:QC)).cells,cn x,[gr x.re],[gr x.im],[gxi x.im.num.sign],cn z,[gr z.re],[gr z.im],[gxi z.im.num.sign],[ga,ga]].flatten
noncomputable def no_G1_2_T1(x z:QC)(w:Qbp)(b_x:Qab x)(b_z:Qab z)(b_w:Qbp.Sz w)(nk:¬(GOk w.val)):List (GC Tryz.prog (no_G1_2_L x z w) true):=[gpi 0 1 24,gpi 0 0 32,gs (Qcg x b_x) [yR 0 8] (.tup [sy [40,41],cTt]),gs (Qba x ((Qaa b_x).mn)) [sy [40,41]] (.tup [cS 42,cS 43]),gs (Qal x.im) [cS 43] (rS 44),gs (Qcg z b_z) [yR 8 8] (.tup [sy [45,46],cTt]),gs (Qba z ((Qaa b_z).mn)) [sy [45,46]] (.tup [cS 47,cS 48]),gs (Qal z.im) [cS 48] (rS 49),gs (pEOfR w b_w false (fI nk)) [yR 16 8] (.tup [sy [50,51],cFf])]
theorem no_G1_2(x z:QC)(w:Qbp)(b_x:Qab x)(b_z:Qab z)(b_w:Qbp.Sz w)(nk:¬(GOk w.val)):SCt 56 [gIi 1,.row ((Qae x).cells),.row ((Qae z).cells),.row (w.cells)] (.tup [.row (zFG),gIi 0,gIi 2]) :=
  (Classical.em (x.im.num.sign ≤ 0)).elim (fun h0 => (Classical.em (z.im.num.sign ≤ 0)).elim (fun h1 => Qai (L := no_G1_2_L x z w) Qad Qag
     (no_G1_2_T1 x z w b_x b_z b_w nk)
     [bLt 3 44 h0,bLt 3 49 h1] [] Qbx 1 3 Tryz.func56 eo56 2000 [lc 1,yR 0 8,yR 8 8,yR 16 8] (.tup [.row (zFA),lc 0,lc 2]))
   (fun h1=>Qai (L:=no_G1_2_L x z w) Qad Qag
     (no_G1_2_T1 x z w b_x b_z b_w nk)
     [bLt 3 44 h0,bLf 3 49 h1] [] Qbx 1 3 Tryz.func56 eo56 2000 [lc 1,yR 0 8,yR 8 8,yR 16 8] (.tup [.row (zFA),lc 0,lc 2])))
   (fun h0=>(Classical.em (z.im.num.sign≤0)).elim (fun h1=>Qai (L:=no_G1_2_L x z w) Qad Qag
     (no_G1_2_T1 x z w b_x b_z b_w nk)
     [bLf 3 44 h0,bLt 3 49 h1] [] Qbx 1 3 Tryz.func56 eo56 2000 [lc 1,yR 0 8,yR 8 8,yR 16 8] (.tup [.row (zFA),lc 0,lc 2]))
   (fun h1=>Qai (L:=no_G1_2_L x z w) Qad Qag
     (no_G1_2_T1 x z w b_x b_z b_w nk)
     [bLf 3 44 h0,bLf 3 49 h1] [] Qbx 1 3 Tryz.func56 eo56 2000 [lc 1,yR 0 8,yR 8 8,yR 16 8] (.tup [.row (zFA),lc 0,lc 2])))
def Qhp(x z w:QC):List GF:=[(Qae x).cells,(Qae z).cells,(Qae w).cells,(Qae (⟨0,1⟩:QC)).cells,(Qae (⟨0,0⟩:QC)).cells,cn x,[gr x.re],[gr x.im],[gxi x.im.num.sign],cn z,[gr z.re],[gr z.im],[gxi z.im.num.sign],cn w,[gr w.re],[gr w.im],[gxi w.im.num.sign]].flatten
noncomputable def Qif(x z w:QC)(b_x:Qab x)(b_z:Qab z)(b_w:Qab w):List (GC Tryz.prog (Qhp x z w) true):=[gpi 0 1 24,gpi 0 0 32,gs (Qcg x b_x) [yR 0 8] (.tup [sy [40,41],cTt]),gs (Qba x ((Qaa b_x).mn)) [sy [40,41]] (.tup [cS 42,cS 43]),gs (Qal x.im) [cS 43] (rS 44),gs (Qcg z b_z) [yR 8 8] (.tup [sy [45,46],cTt]),gs (Qba z ((Qaa b_z).mn)) [sy [45,46]] (.tup [cS 47,cS 48]),gs (Qal z.im) [cS 48] (rS 49),gs (Qcg w b_w) [yR 16 8] (.tup [sy [50,51],cTt]),gs (Qba w ((Qaa b_w).mn)) [sy [50,51]] (.tup [cS 52,cS 53]),gs (Qal w.im) [cS 53] (rS 54)]
theorem no_G1_o0(x z w:QC)(b_x:Qab x)(b_z:Qab z)(b_w:Qab w)(hx:hO1 x):SCt 56 [gIi 1,.row ((Qae x).cells),.row ((Qae z).cells),.row ((Qae w).cells)] (.tup [.row (zFG),gIi 0,gIi 350]) :=
  (Classical.em (z.im.num.sign ≤ 0)).elim (fun h0 => (Classical.em (w.im.num.sign ≤ 0)).elim (fun h1 => Qai (L := Qhp x z w) Qad Qag
     (Qif x z w b_x b_z b_w)
     [bLt 3 44 hx,bLt 3 49 h0,bLt 3 54 h1] [] Qbx 1 3 Tryz.func56 eo56 2000 [lc 1,yR 0 8,yR 8 8,yR 16 8] (.tup [.row (zFA),lc 0,lc 350]))
   (fun h1=>Qai (L:=Qhp x z w) Qad Qag
     (Qif x z w b_x b_z b_w)
     [bLt 3 44 hx,bLt 3 49 h0,bLf 3 54 h1] [] Qbx 1 3 Tryz.func56 eo56 2000 [lc 1,yR 0 8,yR 8 8,yR 16 8] (.tup [.row (zFA),lc 0,lc 350])))
   (fun h0=>(Classical.em (w.im.num.sign≤0)).elim (fun h1=>Qai (L:=Qhp x z w) Qad Qag
     (Qif x z w b_x b_z b_w)
     [bLt 3 44 hx,bLf 3 49 h0,bLt 3 54 h1] [] Qbx 1 3 Tryz.func56 eo56 2000 [lc 1,yR 0 8,yR 8 8,yR 16 8] (.tup [.row (zFA),lc 0,lc 350]))
   (fun h1=>Qai (L:=Qhp x z w) Qad Qag
     (Qif x z w b_x b_z b_w)
     [bLt 3 44 hx,bLf 3 49 h0,bLf 3 54 h1] [] Qbx 1 3 Tryz.func56 eo56 2000 [lc 1,yR 0 8,yR 8 8,yR 16 8] (.tup [.row (zFA),lc 0,lc 350])))
def no_G1_o1_L(x z w:QC):List GF:=[(Qae x).cells,(Qae z).cells,(Qae w).cells,(Qae (⟨0,1⟩:QC)).cells,(Qae (⟨0,0⟩:QC)).cells,cn x,[gr x.re],[gr x.im],[gxi x.im.num.sign],cn z,[gr z.re],[gr z.im],[gxi z.im.num.sign],cn w,[gr w.re],[gr w.im],[gxi w.im.num.sign]].flatten
noncomputable def no_G1_o1_T1(x z w:QC)(b_x:Qab x)(b_z:Qab z)(b_w:Qab w):List (GC Tryz.prog (no_G1_o1_L x z w) true):=[gpi 0 1 24,gpi 0 0 32,gs (Qcg x b_x) [yR 0 8] (.tup [sy [40,41],cTt]),gs (Qba x ((Qaa b_x).mn)) [sy [40,41]] (.tup [cS 42,cS 43]),gs (Qal x.im) [cS 43] (rS 44),gs (Qcg z b_z) [yR 8 8] (.tup [sy [45,46],cTt]),gs (Qba z ((Qaa b_z).mn)) [sy [45,46]] (.tup [cS 47,cS 48]),gs (Qal z.im) [cS 48] (rS 49),gs (Qcg w b_w) [yR 16 8] (.tup [sy [50,51],cTt]),gs (Qba w ((Qaa b_w).mn)) [sy [50,51]] (.tup [cS 52,cS 53]),gs (Qal w.im) [cS 53] (rS 54)]
theorem no_G1_o1(x z w:QC)(b_x:Qab x)(b_z:Qab z)(b_w:Qab w)(hx:hN1 x)(hz:hO1 z):SCt 56 [gIi 1,.row ((Qae x).cells),.row ((Qae z).cells),.row ((Qae w).cells)] (.tup [.row (zFG),gIi 0,gIi 350]) :=
  (Classical.em (w.im.num.sign ≤ 0)).elim (fun h0 => Qai (L := no_G1_o1_L x z w) Qad Qag
     (no_G1_o1_T1 x z w b_x b_z b_w)
     [bLf 3 44 hx,bLt 3 49 hz,bLt 3 54 h0] [] Qbx 1 3 Tryz.func56 eo56 2000 [lc 1,yR 0 8,yR 8 8,yR 16 8] (.tup [.row (zFA),lc 0,lc 350]))
   (fun h0=>Qai (L:=no_G1_o1_L x z w) Qad Qag
     (no_G1_o1_T1 x z w b_x b_z b_w)
     [bLf 3 44 hx,bLt 3 49 hz,bLf 3 54 h0] [] Qbx 1 3 Tryz.func56 eo56 2000 [lc 1,yR 0 8,yR 8 8,yR 16 8] (.tup [.row (zFA),lc 0,lc 350]))
theorem no_G1_o2(x z w:QC)(b_x:Qab x)(b_z:Qab z)(b_w:Qab w)(hx:hN1 x)(hz:hN1 z)(hw:hO1 w):SCt 56 [gIi 1,.row ((Qae x).cells),.row ((Qae z).cells),.row ((Qae w).cells)] (.tup [.row (zFG),gIi 0,gIi 350]) :=
  Qai (L := [(Qae x).cells,(Qae z).cells,(Qae w).cells,(Qae (⟨0,1⟩ : QC)).cells,(Qae (⟨0,0⟩ : QC)).cells,cn x,[gr x.re],[gr x.im],[gxi x.im.num.sign],cn z,[gr z.re],[gr z.im],[gxi z.im.num.sign],cn w,[gr w.re],[gr w.im],[gxi w.im.num.sign]].flatten) Qad Qag
     [gpi 0 1 24,gpi 0 0 32,gs (Qcg x b_x) [yR 0 8] (.tup [sy [40,41],cTt]),gs (Qba x ((Qaa b_x).mn)) [sy [40,41]] (.tup [cS 42,cS 43]),gs (Qal x.im) [cS 43] (rS 44),gs (Qcg z b_z) [yR 8 8] (.tup [sy [45,46],cTt]),gs (Qba z ((Qaa b_z).mn)) [sy [45,46]] (.tup [cS 47,cS 48]),gs (Qal z.im) [cS 48] (rS 49),gs (Qcg w b_w) [yR 16 8] (.tup [sy [50,51],cTt]),gs (Qba w ((Qaa b_w).mn)) [sy [50,51]] (.tup [cS 52,cS 53]),gs (Qal w.im) [cS 53] (rS 54)]
     [bLf 3 44 hx,bLf 3 49 hz,bLt 3 54 hw] [] Qbx 1 3 Tryz.func56 eo56 2000 [lc 1,yR 0 8,yR 8 8,yR 16 8] (.tup [.row (zFA),lc 0,lc 350])
theorem no_P1_0(x z w:Qbp)(b_x:Qbp.Sz x)(nk:¬(GOk x.val)):SMt 29 [(x.cells++z.cells++w.cells,28)] [.f (gIi 1),.sl 0 0 3 3] (.r (gIi 2)) :=
  Qcb (L := [x.cells,z.cells,w.cells].flatten) Qad Qag
     [gs (Qdl x false (fI nk)) [yR 0 8] vFf]
     [] [] Qcu 1 3 Tryz.func29 eo29 2000 [⟨Qav 0 24,28,none⟩] [lc 1,.c (.sl 0 0 3 3)] (.r (lc 2))
def no_P1_1_L(x:QC)(z w:Qbp):List GF:=[(Qae x).cells,z.cells,w.cells,[gxi x.im.num.sign]].flatten
theorem no_P1_1(x:QC)(z w:Qbp)(b_x:Qab x)(b_z:Qbp.Sz z)(b_w:Qbp.Sz w)(nk:¬(GOk z.val)):SMt 29 [((Qae x).cells++z.cells++w.cells,28)] [.f (gIi 1),.sl 0 0 3 3] (.r (gIi 2)) :=
  (Classical.em (x.im.num.sign > 0)).elim (fun h0 => Qcb (L := no_P1_1_L x z w) Qad Qag
     [gs (Qdl (Qae x) true (tI (Qcd b_x))) [yR 0 8] vTt,gs (Qbu x.im) [yR 4 4] (rS 24),gs (Qdl z false (fI nk)) [yR 8 8] vFf]
     [gtY 3 (.sym 24) (li 0) x.im.num.sign 0 h0] [] Qcu 1 3 Tryz.func29 eo29 2000 [⟨Qav 0 24,28,none⟩] [lc 1,.c (.sl 0 0 3 3)] (.r (lc 2)))
   (fun h0=>Qcb (L:=no_P1_1_L x z w) Qad Qag
     [gs (Qdl (Qae x) true (tI (Qcd b_x))) [yR 0 8] vTt,gs (Qbu x.im) [yR 4 4] (rS 24),gs (Qdl z false (fI nk)) [yR 8 8] vFf]
     [gtN 3 (.sym 24) (li 0) x.im.num.sign 0 h0] [] Qcu 1 3 Tryz.func29 eo29 2000 [⟨Qav 0 24,28,none⟩] [lc 1,.c (.sl 0 0 3 3)] (.r (lc 2)))
def no_P1_2_L(x z:QC)(w:Qbp):List GF:=[(Qae x).cells,(Qae z).cells,w.cells,[gxi x.im.num.sign],[gxi z.im.num.sign]].flatten
noncomputable def no_P1_2_T1(x z:QC)(w:Qbp)(b_x:Qab x)(b_z:Qab z)(nk:¬(GOk w.val)):List (GC Tryz.prog (no_P1_2_L x z w) true):=[gs (Qdl (Qae x) true (tI (Qcd b_x))) [yR 0 8] vTt,gs (Qbu x.im) [yR 4 4] (rS 24),gs (Qdl (Qae z) true (tI (Qcd b_z))) [yR 8 8] vTt,gs (Qbu z.im) [yR 12 4] (rS 25),gs (Qdl w false (fI nk)) [yR 16 8] vFf]
theorem no_P1_2(x z:QC)(w:Qbp)(b_x:Qab x)(b_z:Qab z)(b_w:Qbp.Sz w)(nk:¬(GOk w.val)):SMt 29 [((Qae x).cells++(Qae z).cells++w.cells,28)] [.f (gIi 1),.sl 0 0 3 3] (.r (gIi 2)) :=
  (Classical.em (x.im.num.sign > 0)).elim (fun h0 => (Classical.em (z.im.num.sign > 0)).elim (fun h1 => Qcb (L := no_P1_2_L x z w) Qad Qag
     (no_P1_2_T1 x z w b_x b_z nk)
     [gtY 3 (.sym 24) (li 0) x.im.num.sign 0 h0,gtY 3 (.sym 25) (li 0) z.im.num.sign 0 h1] [] Qcu 1 3 Tryz.func29 eo29 2000 [⟨Qav 0 24,28,none⟩] [lc 1,.c (.sl 0 0 3 3)] (.r (lc 2)))
   (fun h1=>Qcb (L:=no_P1_2_L x z w) Qad Qag
     (no_P1_2_T1 x z w b_x b_z nk)
     [gtY 3 (.sym 24) (li 0) x.im.num.sign 0 h0,gtN 3 (.sym 25) (li 0) z.im.num.sign 0 h1] [] Qcu 1 3 Tryz.func29 eo29 2000 [⟨Qav 0 24,28,none⟩] [lc 1,.c (.sl 0 0 3 3)] (.r (lc 2))))
   (fun h0=>(Classical.em (z.im.num.sign>0)).elim (fun h1=>Qcb (L:=no_P1_2_L x z w) Qad Qag
     (no_P1_2_T1 x z w b_x b_z nk)
     [gtN 3 (.sym 24) (li 0) x.im.num.sign 0 h0,gtY 3 (.sym 25) (li 0) z.im.num.sign 0 h1] [] Qcu 1 3 Tryz.func29 eo29 2000 [⟨Qav 0 24,28,none⟩] [lc 1,.c (.sl 0 0 3 3)] (.r (lc 2)))
   (fun h1=>Qcb (L:=no_P1_2_L x z w) Qad Qag
     (no_P1_2_T1 x z w b_x b_z nk)
     [gtN 3 (.sym 24) (li 0) x.im.num.sign 0 h0,gtN 3 (.sym 25) (li 0) z.im.num.sign 0 h1] [] Qcu 1 3 Tryz.func29 eo29 2000 [⟨Qav 0 24,28,none⟩] [lc 1,.c (.sl 0 0 3 3)] (.r (lc 2))))
def Qhr(x z w:QC):List GF:=[(Qae x).cells,(Qae z).cells,(Qae w).cells,[gxi x.im.num.sign],[gxi z.im.num.sign],[gxi w.im.num.sign]].flatten
noncomputable def Qih(x z w:QC)(b_x:Qab x)(b_z:Qab z)(b_w:Qab w):List (GC Tryz.prog (Qhr x z w) true):=[gs (Qdl (Qae x) true (tI (Qcd b_x))) [yR 0 8] vTt,gs (Qbu x.im) [yR 4 4] (rS 24),gs (Qdl (Qae z) true (tI (Qcd b_z))) [yR 8 8] vTt,gs (Qbu z.im) [yR 12 4] (rS 25),gs (Qdl (Qae w) true (tI (Qcd b_w))) [yR 16 8] vTt,gs (Qbu w.im) [yR 20 4] (rS 26)]
theorem no_P1_o0(x z w:QC)(b_x:Qab x)(b_z:Qab z)(b_w:Qab w)(hx:hO1 x):SMt 29 [((Qae x).cells++(Qae z).cells++(Qae w).cells,28)] [.f (gIi 1),.sl 0 0 3 3] (.r (gIi 350)) :=
  (Classical.em (z.im.num.sign > 0)).elim (fun h0 => (Classical.em (w.im.num.sign > 0)).elim (fun h1 => Qcb (L := Qhr x z w) Qad Qag
     (Qih x z w b_x b_z b_w)
     [gtN 3 (.sym 24) (li 0) x.im.num.sign 0 (sg_n hx),gtY 3 (.sym 25) (li 0) z.im.num.sign 0 h0,gtY 3 (.sym 26) (li 0) w.im.num.sign 0 h1] [] Qcu 1 3 Tryz.func29 eo29 2000 [⟨Qav 0 24,28,none⟩] [lc 1,.c (.sl 0 0 3 3)] (.r (lc 350)))
   (fun h1=>Qcb (L:=Qhr x z w) Qad Qag
     (Qih x z w b_x b_z b_w)
     [gtN 3 (.sym 24) (li 0) x.im.num.sign 0 (sg_n hx),gtY 3 (.sym 25) (li 0) z.im.num.sign 0 h0,gtN 3 (.sym 26) (li 0) w.im.num.sign 0 h1] [] Qcu 1 3 Tryz.func29 eo29 2000 [⟨Qav 0 24,28,none⟩] [lc 1,.c (.sl 0 0 3 3)] (.r (lc 350))))
   (fun h0=>(Classical.em (w.im.num.sign>0)).elim (fun h1=>Qcb (L:=Qhr x z w) Qad Qag
     (Qih x z w b_x b_z b_w)
     [gtN 3 (.sym 24) (li 0) x.im.num.sign 0 (sg_n hx),gtN 3 (.sym 25) (li 0) z.im.num.sign 0 h0,gtY 3 (.sym 26) (li 0) w.im.num.sign 0 h1] [] Qcu 1 3 Tryz.func29 eo29 2000 [⟨Qav 0 24,28,none⟩] [lc 1,.c (.sl 0 0 3 3)] (.r (lc 350)))
   (fun h1=>Qcb (L:=Qhr x z w) Qad Qag
     (Qih x z w b_x b_z b_w)
     [gtN 3 (.sym 24) (li 0) x.im.num.sign 0 (sg_n hx),gtN 3 (.sym 25) (li 0) z.im.num.sign 0 h0,gtN 3 (.sym 26) (li 0) w.im.num.sign 0 h1] [] Qcu 1 3 Tryz.func29 eo29 2000 [⟨Qav 0 24,28,none⟩] [lc 1,.c (.sl 0 0 3 3)] (.r (lc 350))))
def no_P1_o1_L(x z w:QC):List GF:=[(Qae x).cells,(Qae z).cells,(Qae w).cells,[gxi x.im.num.sign],[gxi z.im.num.sign],[gxi w.im.num.sign]].flatten
noncomputable def no_P1_o1_T1(x z w:QC)(b_x:Qab x)(b_z:Qab z)(b_w:Qab w):List (GC Tryz.prog (no_P1_o1_L x z w) true):=[gs (Qdl (Qae x) true (tI (Qcd b_x))) [yR 0 8] vTt,gs (Qbu x.im) [yR 4 4] (rS 24),gs (Qdl (Qae z) true (tI (Qcd b_z))) [yR 8 8] vTt,gs (Qbu z.im) [yR 12 4] (rS 25),gs (Qdl (Qae w) true (tI (Qcd b_w))) [yR 16 8] vTt,gs (Qbu w.im) [yR 20 4] (rS 26)]
theorem no_P1_o1(x z w:QC)(b_x:Qab x)(b_z:Qab z)(b_w:Qab w)(hx:hN1 x)(hz:hO1 z):SMt 29 [((Qae x).cells++(Qae z).cells++(Qae w).cells,28)] [.f (gIi 1),.sl 0 0 3 3] (.r (gIi 350)) :=
  (Classical.em (w.im.num.sign > 0)).elim (fun h0 => Qcb (L := no_P1_o1_L x z w) Qad Qag
     (no_P1_o1_T1 x z w b_x b_z b_w)
     [gtY 3 (.sym 24) (li 0) x.im.num.sign 0 (sg_y hx),gtN 3 (.sym 25) (li 0) z.im.num.sign 0 (sg_n hz),gtY 3 (.sym 26) (li 0) w.im.num.sign 0 h0] [] Qcu 1 3 Tryz.func29 eo29 2000 [⟨Qav 0 24,28,none⟩] [lc 1,.c (.sl 0 0 3 3)] (.r (lc 350)))
   (fun h0=>Qcb (L:=no_P1_o1_L x z w) Qad Qag
     (no_P1_o1_T1 x z w b_x b_z b_w)
     [gtY 3 (.sym 24) (li 0) x.im.num.sign 0 (sg_y hx),gtN 3 (.sym 25) (li 0) z.im.num.sign 0 (sg_n hz),gtN 3 (.sym 26) (li 0) w.im.num.sign 0 h0] [] Qcu 1 3 Tryz.func29 eo29 2000 [⟨Qav 0 24,28,none⟩] [lc 1,.c (.sl 0 0 3 3)] (.r (lc 350)))
theorem no_P1_o2(x z w:QC)(b_x:Qab x)(b_z:Qab z)(b_w:Qab w)(hx:hN1 x)(hz:hN1 z)(hw:hO1 w):SMt 29 [((Qae x).cells++(Qae z).cells++(Qae w).cells,28)] [.f (gIi 1),.sl 0 0 3 3] (.r (gIi 350)) :=
  Qcb (L := [(Qae x).cells,(Qae z).cells,(Qae w).cells,[gxi x.im.num.sign],[gxi z.im.num.sign],[gxi w.im.num.sign]].flatten) Qad Qag
     [gs (Qdl (Qae x) true (tI (Qcd b_x))) [yR 0 8] vTt,gs (Qbu x.im) [yR 4 4] (rS 24),gs (Qdl (Qae z) true (tI (Qcd b_z))) [yR 8 8] vTt,gs (Qbu z.im) [yR 12 4] (rS 25),gs (Qdl (Qae w) true (tI (Qcd b_w))) [yR 16 8] vTt,gs (Qbu w.im) [yR 20 4] (rS 26)]
     [gtY 3 (.sym 24) (li 0) x.im.num.sign 0 (sg_y hx),gtY 3 (.sym 25) (li 0) z.im.num.sign 0 (sg_y hz),gtN 3 (.sym 26) (li 0) w.im.num.sign 0 (sg_n hw)] [] Qcu 1 3 Tryz.func29 eo29 2000 [⟨Qav 0 24,28,none⟩] [lc 1,.c (.sl 0 0 3 3)] (.r (lc 350))
theorem no_N1_0(x:Qbp)(b_x:Qbp.Sz x)(nk:¬(GOk x.val)):SMt 29 [(x.cells,28)] [.f (gIi 1),.sl 0 0 1 1] (.r (gIi 2)) :=
  Qcb (L := [x.cells].flatten) Qad Qag
     [gs (Qdl x false (fI nk)) [yR 0 8] vFf]
     [] [] Qcu 1 3 Tryz.func29 eo29 2000 [⟨Qav 0 8,28,none⟩] [lc 1,.c (.sl 0 0 1 1)] (.r (lc 2))
theorem no_N1_o0(x:QC)(b_x:Qab x)(hx:hO1 x):SMt 29 [((Qae x).cells,28)] [.f (gIi 1),.sl 0 0 1 1] (.r (gIi 350)) :=
  Qcb (L := [(Qae x).cells,[gxi x.im.num.sign]].flatten) Qad Qag
     [gs (Qdl (Qae x) true (tI (Qcd b_x))) [yR 0 8] vTt,gs (Qbu x.im) [yR 4 4] (rS 8)]
     [gtN 3 (.sym 8) (li 0) x.im.num.sign 0 (sg_n hx)] [] Qcu 1 3 Tryz.func29 eo29 2000 [⟨Qav 0 8,28,none⟩] [lc 1,.c (.sl 0 0 1 1)] (.r (lc 350))
theorem no_A1_0(x:Qbp)(y:Qdg)(b_x:Qbp.Sz x)(b_y:y.Sz)(nk:¬(GOk x.val)):SCt 54 [gIi 1,.row (x.cells),.row (y.cells)] (.tup [.row (zGG++zGG),gIi 2]) :=
  Qai (L := [x.cells,y.cells,(Qae (⟨0,1⟩ : QC)).cells,(Qae (⟨0,0⟩ : QC)).cells,[ga,ga],[ga]].flatten) Qad Qag
     [gpi 0 1 12,gpi 0 0 20,gs (pEOfR x b_x false (fI nk)) [yR 0 8] (.tup [sy [28,29],cFf]),gs (pERatA y b_y) [yR 8 4] (rS 30)]
     [] [] Qbx 1 3 Tryz.func54 eo54 2000 [lc 1,yR 0 8,yR 8 4] (.tup [.row (flA [zGA,zGA]),lc 2])
def no_A1_y_L(x:QC)(y:Qdg):List GF:=[(Qae x).cells,y.cells,(Qae (⟨0,1⟩:QC)).cells,(Qae (⟨0,0⟩:QC)).cells,cn x,[gr x.re],[gr x.im],[gxi x.im.num.sign]].flatten
noncomputable def no_A1_y_T1(x:QC)(y:Qdg)(b_x:Qab x)(b_y:y.Sz)(ny:¬(Qde y.val)):List (GC Tryz.prog (no_A1_y_L x y) true):=[gpi 0 1 12,gpi 0 0 20,gs (Qcg x b_x) [yR 0 8] (.tup [sy [28,29],cTt]),gs (Qba x ((Qaa b_x).mn)) [sy [28,29]] (.tup [cS 30,cS 31]),gs (Qal x.im) [cS 31] (rS 32),gs (pERatN y b_y ny) [yR 8 4] (.r (.c (.lit .nilp)))]
theorem no_A1_y(x:QC)(y:Qdg)(b_x:Qab x)(b_y:y.Sz)(ny:¬(Qde y.val)):SCt 54 [gIi 1,.row ((Qae x).cells),.row (y.cells)] (.tup [.row (zGG++zGG),gIi 2]) :=
  (Classical.em (x.im.num.sign ≤ 0)).elim (fun h0 => Qai (L := no_A1_y_L x y) Qad Qag
     (no_A1_y_T1 x y b_x b_y ny)
     [bLt 3 32 h0,gb .eql 114 (.c (.lit .nilp)) (.c (.lit .nilp)) lTt (fun _ _ _=>by kernel_rfl) (vx:=.pointer none) (vy:=.pointer none) (v:=.bool true) (by kernel_rfl) (by kernel_rfl) (by kernel_rfl)] [] Qbx 1 3 Tryz.func54 eo54 2000 [lc 1,yR 0 8,yR 8 4] (.tup [.row (flA [zGA,zGA]),lc 2]))
   (fun h0=>Qai (L:=no_A1_y_L x y) Qad Qag
     (no_A1_y_T1 x y b_x b_y ny)
     [bLf 3 32 h0,gb .eql 114 (.c (.lit .nilp)) (.c (.lit .nilp)) lTt (fun _ _ _=>by kernel_rfl) (vx:=.pointer none) (vy:=.pointer none) (v:=.bool true) (by kernel_rfl) (by kernel_rfl) (by kernel_rfl)] [] Qbx 1 3 Tryz.func54 eo54 2000 [lc 1,yR 0 8,yR 8 4] (.tup [.row (flA [zGA,zGA]),lc 2]))
def no_A1_1_L(x:QC)(y:Rat):List GF:=[(Qae x).cells,cF y,(Qae (⟨0,1⟩:QC)).cells,(Qae (⟨0,0⟩:QC)).cells,cn x,[gr x.re],[gr x.im],[gxi x.im.num.sign],[gr y],[gr (1:Rat)],[gxi (Qfo y (1:Rat))]].flatten
noncomputable def no_A1_1_T1(x:QC)(y:Rat)(b_x:Qab x)(b_y:RL y 1024)(hsy:Qap y):List (GC Tryz.prog (no_A1_1_L x y) true):=[gpi 0 1 11,gpi 0 0 19,gs (Qcg x b_x) [yR 0 8] (.tup [sy [27,28],cTt]),gs (Qba x ((Qaa b_x).mn)) [sy [27,28]] (.tup [cS 29,cS 30]),gs (Qal x.im) [cS 30] (rS 31),gs (pERat y hsy) [yQ 8] (rS 32),gs (pnr 1) [lc 1,lc 1] (rS 33),gs (pRCmp y (1:Rat) b_y (rj 1) (by decide)) [cS 32,cS 33] (rS 34)]
theorem no_A1_1(x:QC)(y:Rat)(b_x:Qab x)(b_y:RL y 1024)(hsy:Qap y)(hy:(Qfo y (1:Rat))≤0):SCt 54 [gIi 1,.row ((Qae x).cells),.row (rF y)] (.tup [.row (zGG++zGG),gIi 2]) :=
  (Classical.em (x.im.num.sign ≤ 0)).elim (fun h0 => Qai (L := no_A1_1_L x y) Qad Qag
     (no_A1_1_T1 x y b_x b_y hsy)
     [bLt 3 31 h0,gbNilR y (.sym 32),bLt 3 34 hy] [] Qbx 1 3 Tryz.func54 eo54 2000 [lc 1,yR 0 8,yQ 8] (.tup [.row (flA [zGA,zGA]),lc 2]))
   (fun h0=>Qai (L:=no_A1_1_L x y) Qad Qag
     (no_A1_1_T1 x y b_x b_y hsy)
     [bLf 3 31 h0,gbNilR y (.sym 32),bLt 3 34 hy] [] Qbx 1 3 Tryz.func54 eo54 2000 [lc 1,yR 0 8,yQ 8] (.tup [.row (flA [zGA,zGA]),lc 2]))
theorem no_A1_o(x:QC)(y:Rat)(b_x:Qab x)(b_y:RL y 1024)(hx:hO1 x)(hsy:Qap y)(hy:¬((Qfo y (1:Rat))≤0)):SCt 54 [gIi 1,.row ((Qae x).cells),.row (rF y)] (.tup [.row (zGG++zGG),gIi 350]) :=
  Qai (L := [(Qae x).cells,cF y,(Qae (⟨0,1⟩ : QC)).cells,(Qae (⟨0,0⟩ : QC)).cells,cn x,[gr x.re],[gr x.im],[gxi x.im.num.sign],[gr y],[gr (1 : Rat)],[gxi (Qfo y (1 : Rat))]].flatten) Qad Qag
     [gpi 0 1 11,gpi 0 0 19,gs (Qcg x b_x) [yR 0 8] (.tup [sy [27,28],cTt]),gs (Qba x ((Qaa b_x).mn)) [sy [27,28]] (.tup [cS 29,cS 30]),gs (Qal x.im) [cS 30] (rS 31),gs (pERat y hsy) [yQ 8] (rS 32),gs (pnr 1) [lc 1,lc 1] (rS 33),gs (pRCmp y (1:Rat) b_y (rj 1) (by decide)) [cS 32,cS 33] (rS 34),gs (pFMayQ y hsy) [yQ 8] vTt]
     [bLt 3 31 hx,gbNilR y (.sym 32),bLf 3 34 hy] [] Qbx 1 3 Tryz.func54 eo54 2000 [lc 1,yR 0 8,yQ 8] (.tup [.row (flA [zGA,zGA]),lc 350])
theorem no_B2_0(z x w:Qbp)(b_z:Qbp.Sz z)(nk:¬(GOk z.val)):SCt 55 [gIi 2,.row (z.cells),.row (x.cells),.row (w.cells)] (.tup [gFf,gIi 2]) :=
  Qai (L := [z.cells,x.cells,w.cells,(Qae (⟨0,1⟩ : QC)).cells,(Qae (⟨0,0⟩ : QC)).cells,[ga,ga]].flatten) Qad Qag
     [gpi 0 1 24,gpi 0 0 32,gs (pEOfR z b_z false (fI nk)) [yR 0 8] (.tup [sy [40,41],cFf])]
     [] [] Qbx 1 3 Tryz.func55 eo55 2000 [lc 2,yR 0 8,yR 8 8,yR 16 8] (.tup [cFf,lc 2])
def no_B2_1_L(z:QC)(x w:Qbp):List GF:=[(Qae z).cells,x.cells,w.cells,(Qae (⟨0,1⟩:QC)).cells,(Qae (⟨0,0⟩:QC)).cells,cn z,[gr (1:Rat)],[gr (nm z)],[gr ((1:Rat) - (nm z))],[gxi (((1:Rat) - (nm z)).num.sign)],[ga,ga]].flatten
noncomputable def no_B2_1_T1(z:QC)(x w:Qbp)(b_z:Qab z)(b_x:Qbp.Sz x)(nk:¬(GOk x.val)):List (GC Tryz.prog (no_B2_1_L z x w) true):=[gpi 0 1 24,gpi 0 0 32,gs (Qcg z b_z) [yR 0 8] (.tup [sy [40,41],cTt]),gs (pnr 1) [lc 1,lc 1] (rS 42),gs (Qbf z ((Qaa b_z).mn)) [sy [40,41]] (rS 43),gs (Qbb (1:Rat) (nm z) (ri 1) ((Qak (Qaa b_z)).mn)) [cS 42,cS 43] (rS 44),gs (Qal ((1:Rat) - (nm z))) [cS 44] (rS 45),gs (pEOfR x b_x false (fI nk)) [yR 8 8] (.tup [sy [46,47],cFf])]
theorem no_B2_1(z:QC)(x w:Qbp)(b_z:Qab z)(b_x:Qbp.Sz x)(b_w:Qbp.Sz w)(nk:¬(GOk x.val)):SCt 55 [gIi 2,.row ((Qae z).cells),.row (x.cells),.row (w.cells)] (.tup [gFf,gIi 2]) :=
  (Classical.em ((((1 : Rat) - (nm z)).num.sign) ≤ 0)).elim (fun h0 => Qai (L := no_B2_1_L z x w) Qad Qag
     (no_B2_1_T1 z x w b_z b_x nk)
     [bLt 3 45 h0] [] Qbx 1 3 Tryz.func55 eo55 2000 [lc 2,yR 0 8,yR 8 8,yR 16 8] (.tup [cFf,lc 2]))
   (fun h0=>Qai (L:=no_B2_1_L z x w) Qad Qag
     (no_B2_1_T1 z x w b_z b_x nk)
     [bLf 3 45 h0] [] Qbx 1 3 Tryz.func55 eo55 2000 [lc 2,yR 0 8,yR 8 8,yR 16 8] (.tup [cFf,lc 2]))
def no_B2_2_L(z x:QC)(w:Qbp):List GF:=[(Qae z).cells,(Qae x).cells,w.cells,(Qae (⟨0,1⟩:QC)).cells,(Qae (⟨0,0⟩:QC)).cells,cn z,[gr (1:Rat)],[gr (nm z)],[gr ((1:Rat) - (nm z))],[gxi (((1:Rat) - (nm z)).num.sign)],cn x,[gr (nm x)],[gr ((1:Rat) - (nm x))],[gxi (((1:Rat) - (nm x)).num.sign)],[ga,ga]].flatten
noncomputable def no_B2_2_T1(z x:QC)(w:Qbp)(b_z:Qab z)(b_x:Qab x)(b_w:Qbp.Sz w)(nk:¬(GOk w.val)):List (GC Tryz.prog (no_B2_2_L z x w) true):=[gpi 0 1 24,gpi 0 0 32,gs (Qcg z b_z) [yR 0 8] (.tup [sy [40,41],cTt]),gs (pnr 1) [lc 1,lc 1] (rS 42),gs (Qbf z ((Qaa b_z).mn)) [sy [40,41]] (rS 43),gs (Qbb (1:Rat) (nm z) (ri 1) ((Qak (Qaa b_z)).mn)) [cS 42,cS 43] (rS 44),gs (Qal ((1:Rat) - (nm z))) [cS 44] (rS 45),gs (Qcg x b_x) [yR 8 8] (.tup [sy [46,47],cTt]),gs (Qbf x ((Qaa b_x).mn)) [sy [46,47]] (rS 48),gs (Qbb (1:Rat) (nm x) (ri 1) ((Qak (Qaa b_x)).mn)) [cS 42,cS 48] (rS 49),gs (Qal ((1:Rat) - (nm x))) [cS 49] (rS 50),gs (pEOfR w b_w false (fI nk)) [yR 16 8] (.tup [sy [51,52],cFf])]
theorem no_B2_2(z x:QC)(w:Qbp)(b_z:Qab z)(b_x:Qab x)(b_w:Qbp.Sz w)(nk:¬(GOk w.val)):SCt 55 [gIi 2,.row ((Qae z).cells),.row ((Qae x).cells),.row (w.cells)] (.tup [gFf,gIi 2]) :=
  (Classical.em ((((1 : Rat) - (nm z)).num.sign) ≤ 0)).elim (fun h0 => (Classical.em ((((1 : Rat) - (nm x)).num.sign) ≤ 0)).elim (fun h1 => Qai (L := no_B2_2_L z x w) Qad Qag
     (no_B2_2_T1 z x w b_z b_x b_w nk)
     [bLt 3 45 h0,bLt 3 50 h1] [] Qbx 1 3 Tryz.func55 eo55 2000 [lc 2,yR 0 8,yR 8 8,yR 16 8] (.tup [cFf,lc 2]))
   (fun h1=>Qai (L:=no_B2_2_L z x w) Qad Qag
     (no_B2_2_T1 z x w b_z b_x b_w nk)
     [bLt 3 45 h0,bLf 3 50 h1] [] Qbx 1 3 Tryz.func55 eo55 2000 [lc 2,yR 0 8,yR 8 8,yR 16 8] (.tup [cFf,lc 2])))
   (fun h0=>(Classical.em ((((1:Rat) - (nm x)).num.sign)≤0)).elim (fun h1=>Qai (L:=no_B2_2_L z x w) Qad Qag
     (no_B2_2_T1 z x w b_z b_x b_w nk)
     [bLf 3 45 h0,bLt 3 50 h1] [] Qbx 1 3 Tryz.func55 eo55 2000 [lc 2,yR 0 8,yR 8 8,yR 16 8] (.tup [cFf,lc 2]))
   (fun h1=>Qai (L:=no_B2_2_L z x w) Qad Qag
     (no_B2_2_T1 z x w b_z b_x b_w nk)
     [bLf 3 45 h0,bLf 3 50 h1] [] Qbx 1 3 Tryz.func55 eo55 2000 [lc 2,yR 0 8,yR 8 8,yR 16 8] (.tup [cFf,lc 2])))
def Qho(z x w:QC):List GF:=[(Qae z).cells,(Qae x).cells,(Qae w).cells,(Qae (⟨0,1⟩:QC)).cells,(Qae (⟨0,0⟩:QC)).cells,cn z,[gr (1:Rat)],[gr (nm z)],[gr ((1:Rat) - (nm z))],[gxi (((1:Rat) - (nm z)).num.sign)],cn x,[gr (nm x)],[gr ((1:Rat) - (nm x))],[gxi (((1:Rat) - (nm x)).num.sign)],cn w,[gr (nm w)],[gr ((1:Rat) - (nm w))],[gxi (((1:Rat) - (nm w)).num.sign)]].flatten
noncomputable def Qie(z x w:QC)(b_z:Qab z)(b_x:Qab x)(b_w:Qab w):List (GC Tryz.prog (Qho z x w) true):=[gpi 0 1 24,gpi 0 0 32,gs (Qcg z b_z) [yR 0 8] (.tup [sy [40,41],cTt]),gs (pnr 1) [lc 1,lc 1] (rS 42),gs (Qbf z ((Qaa b_z).mn)) [sy [40,41]] (rS 43),gs (Qbb (1:Rat) (nm z) (ri 1) ((Qak (Qaa b_z)).mn)) [cS 42,cS 43] (rS 44),gs (Qal ((1:Rat) - (nm z))) [cS 44] (rS 45),gs (Qcg x b_x) [yR 8 8] (.tup [sy [46,47],cTt]),gs (Qbf x ((Qaa b_x).mn)) [sy [46,47]] (rS 48),gs (Qbb (1:Rat) (nm x) (ri 1) ((Qak (Qaa b_x)).mn)) [cS 42,cS 48] (rS 49),gs (Qal ((1:Rat) - (nm x))) [cS 49] (rS 50),gs (Qcg w b_w) [yR 16 8] (.tup [sy [51,52],cTt]),gs (Qbf w ((Qaa b_w).mn)) [sy [51,52]] (rS 53),gs (Qbb (1:Rat) (nm w) (ri 1) ((Qak (Qaa b_w)).mn)) [cS 42,cS 53] (rS 54),gs (Qal ((1:Rat) - (nm w))) [cS 54] (rS 55)]
theorem no_B2_o0(z x w:QC)(b_z:Qab z)(b_x:Qab x)(b_w:Qab w)(hz:hO2 z):SCt 55 [gIi 2,.row ((Qae z).cells),.row ((Qae x).cells),.row ((Qae w).cells)] (.tup [gFf,gIi 350]) :=
  (Classical.em ((((1 : Rat) - (nm x)).num.sign) ≤ 0)).elim (fun h0 => (Classical.em ((((1 : Rat) - (nm w)).num.sign) ≤ 0)).elim (fun h1 => Qai (L := Qho z x w) Qad Qag
     (Qie z x w b_z b_x b_w)
     [bLt 3 45 hz,bLt 3 50 h0,bLt 3 55 h1] [] Qbx 1 3 Tryz.func55 eo55 2000 [lc 2,yR 0 8,yR 8 8,yR 16 8] (.tup [cFf,lc 350]))
   (fun h1=>Qai (L:=Qho z x w) Qad Qag
     (Qie z x w b_z b_x b_w)
     [bLt 3 45 hz,bLt 3 50 h0,bLf 3 55 h1] [] Qbx 1 3 Tryz.func55 eo55 2000 [lc 2,yR 0 8,yR 8 8,yR 16 8] (.tup [cFf,lc 350])))
   (fun h0=>(Classical.em ((((1:Rat) - (nm w)).num.sign)≤0)).elim (fun h1=>Qai (L:=Qho z x w) Qad Qag
     (Qie z x w b_z b_x b_w)
     [bLt 3 45 hz,bLf 3 50 h0,bLt 3 55 h1] [] Qbx 1 3 Tryz.func55 eo55 2000 [lc 2,yR 0 8,yR 8 8,yR 16 8] (.tup [cFf,lc 350]))
   (fun h1=>Qai (L:=Qho z x w) Qad Qag
     (Qie z x w b_z b_x b_w)
     [bLt 3 45 hz,bLf 3 50 h0,bLf 3 55 h1] [] Qbx 1 3 Tryz.func55 eo55 2000 [lc 2,yR 0 8,yR 8 8,yR 16 8] (.tup [cFf,lc 350])))
def no_B2_o1_L(z x w:QC):List GF:=[(Qae z).cells,(Qae x).cells,(Qae w).cells,(Qae (⟨0,1⟩:QC)).cells,(Qae (⟨0,0⟩:QC)).cells,cn z,[gr (1:Rat)],[gr (nm z)],[gr ((1:Rat) - (nm z))],[gxi (((1:Rat) - (nm z)).num.sign)],cn x,[gr (nm x)],[gr ((1:Rat) - (nm x))],[gxi (((1:Rat) - (nm x)).num.sign)],cn w,[gr (nm w)],[gr ((1:Rat) - (nm w))],[gxi (((1:Rat) - (nm w)).num.sign)]].flatten
noncomputable def no_B2_o1_T1(z x w:QC)(b_z:Qab z)(b_x:Qab x)(b_w:Qab w):List (GC Tryz.prog (no_B2_o1_L z x w) true):=[gpi 0 1 24,gpi 0 0 32,gs (Qcg z b_z) [yR 0 8] (.tup [sy [40,41],cTt]),gs (pnr 1) [lc 1,lc 1] (rS 42),gs (Qbf z ((Qaa b_z).mn)) [sy [40,41]] (rS 43),gs (Qbb (1:Rat) (nm z) (ri 1) ((Qak (Qaa b_z)).mn)) [cS 42,cS 43] (rS 44),gs (Qal ((1:Rat) - (nm z))) [cS 44] (rS 45),gs (Qcg x b_x) [yR 8 8] (.tup [sy [46,47],cTt]),gs (Qbf x ((Qaa b_x).mn)) [sy [46,47]] (rS 48),gs (Qbb (1:Rat) (nm x) (ri 1) ((Qak (Qaa b_x)).mn)) [cS 42,cS 48] (rS 49),gs (Qal ((1:Rat) - (nm x))) [cS 49] (rS 50),gs (Qcg w b_w) [yR 16 8] (.tup [sy [51,52],cTt]),gs (Qbf w ((Qaa b_w).mn)) [sy [51,52]] (rS 53),gs (Qbb (1:Rat) (nm w) (ri 1) ((Qak (Qaa b_w)).mn)) [cS 42,cS 53] (rS 54),gs (Qal ((1:Rat) - (nm w))) [cS 54] (rS 55)]
theorem no_B2_o1(z x w:QC)(b_z:Qab z)(b_x:Qab x)(b_w:Qab w)(hz:hN2 z)(hx:hO2 x):SCt 55 [gIi 2,.row ((Qae z).cells),.row ((Qae x).cells),.row ((Qae w).cells)] (.tup [gFf,gIi 350]) :=
  (Classical.em ((((1 : Rat) - (nm w)).num.sign) ≤ 0)).elim (fun h0 => Qai (L := no_B2_o1_L z x w) Qad Qag
     (no_B2_o1_T1 z x w b_z b_x b_w)
     [bLf 3 45 hz,bLt 3 50 hx,bLt 3 55 h0] [] Qbx 1 3 Tryz.func55 eo55 2000 [lc 2,yR 0 8,yR 8 8,yR 16 8] (.tup [cFf,lc 350]))
   (fun h0=>Qai (L:=no_B2_o1_L z x w) Qad Qag
     (no_B2_o1_T1 z x w b_z b_x b_w)
     [bLf 3 45 hz,bLt 3 50 hx,bLf 3 55 h0] [] Qbx 1 3 Tryz.func55 eo55 2000 [lc 2,yR 0 8,yR 8 8,yR 16 8] (.tup [cFf,lc 350]))
def no_B2_o2_L(z x w:QC):List GF:=[(Qae z).cells,(Qae x).cells,(Qae w).cells,(Qae (⟨0,1⟩:QC)).cells,(Qae (⟨0,0⟩:QC)).cells,cn z,[gr (1:Rat)],[gr (nm z)],[gr ((1:Rat) - (nm z))],[gxi (((1:Rat) - (nm z)).num.sign)],cn x,[gr (nm x)],[gr ((1:Rat) - (nm x))],[gxi (((1:Rat) - (nm x)).num.sign)],cn w,[gr (nm w)],[gr ((1:Rat) - (nm w))],[gxi (((1:Rat) - (nm w)).num.sign)]].flatten
theorem no_B2_o2(z x w:QC)(b_z:Qab z)(b_x:Qab x)(b_w:Qab w)(hz:hN2 z)(hx:hN2 x)(hw:hO2 w):SCt 55 [gIi 2,.row ((Qae z).cells),.row ((Qae x).cells),.row ((Qae w).cells)] (.tup [gFf,gIi 350]) :=
  Qai (L := no_B2_o2_L z x w) Qad Qag
     [gpi 0 1 24,gpi 0 0 32,gs (Qcg z b_z) [yR 0 8] (.tup [sy [40,41],cTt]),gs (pnr 1) [lc 1,lc 1] (rS 42),gs (Qbf z ((Qaa b_z).mn)) [sy [40,41]] (rS 43),gs (Qbb (1:Rat) (nm z) (ri 1) ((Qak (Qaa b_z)).mn)) [cS 42,cS 43] (rS 44),gs (Qal ((1:Rat) - (nm z))) [cS 44] (rS 45),gs (Qcg x b_x) [yR 8 8] (.tup [sy [46,47],cTt]),gs (Qbf x ((Qaa b_x).mn)) [sy [46,47]] (rS 48),gs (Qbb (1:Rat) (nm x) (ri 1) ((Qak (Qaa b_x)).mn)) [cS 42,cS 48] (rS 49),gs (Qal ((1:Rat) - (nm x))) [cS 49] (rS 50),gs (Qcg w b_w) [yR 16 8] (.tup [sy [51,52],cTt]),gs (Qbf w ((Qaa b_w).mn)) [sy [51,52]] (rS 53),gs (Qbb (1:Rat) (nm w) (ri 1) ((Qak (Qaa b_w)).mn)) [cS 42,cS 53] (rS 54),gs (Qal ((1:Rat) - (nm w))) [cS 54] (rS 55)]
     [bLf 3 45 hz,bLf 3 50 hx,bLt 3 55 hw] [] Qbx 1 3 Tryz.func55 eo55 2000 [lc 2,yR 0 8,yR 8 8,yR 16 8] (.tup [cFf,lc 350])
theorem no_G2_0(x z w:Qbp)(b_x:Qbp.Sz x)(nk:¬(GOk x.val)):SCt 56 [gIi 2,.row (x.cells),.row (z.cells),.row (w.cells)] (.tup [.row (zFG),gIi 0,gIi 2]) :=
  Qai (L := [x.cells,z.cells,w.cells,(Qae (⟨0,1⟩ : QC)).cells,(Qae (⟨0,0⟩ : QC)).cells,[ga,ga]].flatten) Qad Qag
     [gpi 0 1 24,gpi 0 0 32,gs (pEOfR x b_x false (fI nk)) [yR 0 8] (.tup [sy [40,41],cFf])]
     [] [] Qbx 1 3 Tryz.func56 eo56 2000 [lc 2,yR 0 8,yR 8 8,yR 16 8] (.tup [.row (zFA),lc 0,lc 2])
def no_G2_1_L(x:QC)(z w:Qbp):List GF:=[(Qae x).cells,z.cells,w.cells,(Qae (⟨0,1⟩:QC)).cells,(Qae (⟨0,0⟩:QC)).cells,cn x,[gr (1:Rat)],[gr (nm x)],[gr ((1:Rat) - (nm x))],[gxi (((1:Rat) - (nm x)).num.sign)],[ga,ga]].flatten
noncomputable def no_G2_1_T1(x:QC)(z w:Qbp)(b_x:Qab x)(b_z:Qbp.Sz z)(nk:¬(GOk z.val)):List (GC Tryz.prog (no_G2_1_L x z w) true):=[gpi 0 1 24,gpi 0 0 32,gs (Qcg x b_x) [yR 0 8] (.tup [sy [40,41],cTt]),gs (pnr 1) [lc 1,lc 1] (rS 42),gs (Qbf x ((Qaa b_x).mn)) [sy [40,41]] (rS 43),gs (Qbb (1:Rat) (nm x) (ri 1) ((Qak (Qaa b_x)).mn)) [cS 42,cS 43] (rS 44),gs (Qal ((1:Rat) - (nm x))) [cS 44] (rS 45),gs (pEOfR z b_z false (fI nk)) [yR 8 8] (.tup [sy [46,47],cFf])]
theorem no_G2_1(x:QC)(z w:Qbp)(b_x:Qab x)(b_z:Qbp.Sz z)(b_w:Qbp.Sz w)(nk:¬(GOk z.val)):SCt 56 [gIi 2,.row ((Qae x).cells),.row (z.cells),.row (w.cells)] (.tup [.row (zFG),gIi 0,gIi 2]) :=
  (Classical.em ((((1 : Rat) - (nm x)).num.sign) ≤ 0)).elim (fun h0 => Qai (L := no_G2_1_L x z w) Qad Qag
     (no_G2_1_T1 x z w b_x b_z nk)
     [bLt 3 45 h0] [] Qbx 1 3 Tryz.func56 eo56 2000 [lc 2,yR 0 8,yR 8 8,yR 16 8] (.tup [.row (zFA),lc 0,lc 2]))
   (fun h0=>Qai (L:=no_G2_1_L x z w) Qad Qag
     (no_G2_1_T1 x z w b_x b_z nk)
     [bLf 3 45 h0] [] Qbx 1 3 Tryz.func56 eo56 2000 [lc 2,yR 0 8,yR 8 8,yR 16 8] (.tup [.row (zFA),lc 0,lc 2]))
def no_G2_2_L(x z:QC)(w:Qbp):List GF:=[(Qae x).cells,(Qae z).cells,w.cells,(Qae (⟨0,1⟩:QC)).cells,(Qae (⟨0,0⟩:QC)).cells,cn x,[gr (1:Rat)],[gr (nm x)],[gr ((1:Rat) - (nm x))],[gxi (((1:Rat) - (nm x)).num.sign)],cn z,[gr (nm z)],[gr ((1:Rat) - (nm z))],[gxi (((1:Rat) - (nm z)).num.sign)],[ga,ga]].flatten
noncomputable def no_G2_2_T1(x z:QC)(w:Qbp)(b_x:Qab x)(b_z:Qab z)(b_w:Qbp.Sz w)(nk:¬(GOk w.val)):List (GC Tryz.prog (no_G2_2_L x z w) true):=[gpi 0 1 24,gpi 0 0 32,gs (Qcg x b_x) [yR 0 8] (.tup [sy [40,41],cTt]),gs (pnr 1) [lc 1,lc 1] (rS 42),gs (Qbf x ((Qaa b_x).mn)) [sy [40,41]] (rS 43),gs (Qbb (1:Rat) (nm x) (ri 1) ((Qak (Qaa b_x)).mn)) [cS 42,cS 43] (rS 44),gs (Qal ((1:Rat) - (nm x))) [cS 44] (rS 45),gs (Qcg z b_z) [yR 8 8] (.tup [sy [46,47],cTt]),gs (Qbf z ((Qaa b_z).mn)) [sy [46,47]] (rS 48),gs (Qbb (1:Rat) (nm z) (ri 1) ((Qak (Qaa b_z)).mn)) [cS 42,cS 48] (rS 49),gs (Qal ((1:Rat) - (nm z))) [cS 49] (rS 50),gs (pEOfR w b_w false (fI nk)) [yR 16 8] (.tup [sy [51,52],cFf])]
theorem no_G2_2(x z:QC)(w:Qbp)(b_x:Qab x)(b_z:Qab z)(b_w:Qbp.Sz w)(nk:¬(GOk w.val)):SCt 56 [gIi 2,.row ((Qae x).cells),.row ((Qae z).cells),.row (w.cells)] (.tup [.row (zFG),gIi 0,gIi 2]) :=
  (Classical.em ((((1 : Rat) - (nm x)).num.sign) ≤ 0)).elim (fun h0 => (Classical.em ((((1 : Rat) - (nm z)).num.sign) ≤ 0)).elim (fun h1 => Qai (L := no_G2_2_L x z w) Qad Qag
     (no_G2_2_T1 x z w b_x b_z b_w nk)
     [bLt 3 45 h0,bLt 3 50 h1] [] Qbx 1 3 Tryz.func56 eo56 2000 [lc 2,yR 0 8,yR 8 8,yR 16 8] (.tup [.row (zFA),lc 0,lc 2]))
   (fun h1=>Qai (L:=no_G2_2_L x z w) Qad Qag
     (no_G2_2_T1 x z w b_x b_z b_w nk)
     [bLt 3 45 h0,bLf 3 50 h1] [] Qbx 1 3 Tryz.func56 eo56 2000 [lc 2,yR 0 8,yR 8 8,yR 16 8] (.tup [.row (zFA),lc 0,lc 2])))
   (fun h0=>(Classical.em ((((1:Rat) - (nm z)).num.sign)≤0)).elim (fun h1=>Qai (L:=no_G2_2_L x z w) Qad Qag
     (no_G2_2_T1 x z w b_x b_z b_w nk)
     [bLf 3 45 h0,bLt 3 50 h1] [] Qbx 1 3 Tryz.func56 eo56 2000 [lc 2,yR 0 8,yR 8 8,yR 16 8] (.tup [.row (zFA),lc 0,lc 2]))
   (fun h1=>Qai (L:=no_G2_2_L x z w) Qad Qag
     (no_G2_2_T1 x z w b_x b_z b_w nk)
     [bLf 3 45 h0,bLf 3 50 h1] [] Qbx 1 3 Tryz.func56 eo56 2000 [lc 2,yR 0 8,yR 8 8,yR 16 8] (.tup [.row (zFA),lc 0,lc 2])))
def Qhq(x z w:QC):List GF:=[(Qae x).cells,(Qae z).cells,(Qae w).cells,(Qae (⟨0,1⟩:QC)).cells,(Qae (⟨0,0⟩:QC)).cells,cn x,[gr (1:Rat)],[gr (nm x)],[gr ((1:Rat) - (nm x))],[gxi (((1:Rat) - (nm x)).num.sign)],cn z,[gr (nm z)],[gr ((1:Rat) - (nm z))],[gxi (((1:Rat) - (nm z)).num.sign)],cn w,[gr (nm w)],[gr ((1:Rat) - (nm w))],[gxi (((1:Rat) - (nm w)).num.sign)]].flatten
noncomputable def Qig(x z w:QC)(b_x:Qab x)(b_z:Qab z)(b_w:Qab w):List (GC Tryz.prog (Qhq x z w) true):=[gpi 0 1 24,gpi 0 0 32,gs (Qcg x b_x) [yR 0 8] (.tup [sy [40,41],cTt]),gs (pnr 1) [lc 1,lc 1] (rS 42),gs (Qbf x ((Qaa b_x).mn)) [sy [40,41]] (rS 43),gs (Qbb (1:Rat) (nm x) (ri 1) ((Qak (Qaa b_x)).mn)) [cS 42,cS 43] (rS 44),gs (Qal ((1:Rat) - (nm x))) [cS 44] (rS 45),gs (Qcg z b_z) [yR 8 8] (.tup [sy [46,47],cTt]),gs (Qbf z ((Qaa b_z).mn)) [sy [46,47]] (rS 48),gs (Qbb (1:Rat) (nm z) (ri 1) ((Qak (Qaa b_z)).mn)) [cS 42,cS 48] (rS 49),gs (Qal ((1:Rat) - (nm z))) [cS 49] (rS 50),gs (Qcg w b_w) [yR 16 8] (.tup [sy [51,52],cTt]),gs (Qbf w ((Qaa b_w).mn)) [sy [51,52]] (rS 53),gs (Qbb (1:Rat) (nm w) (ri 1) ((Qak (Qaa b_w)).mn)) [cS 42,cS 53] (rS 54),gs (Qal ((1:Rat) - (nm w))) [cS 54] (rS 55)]
theorem no_G2_o0(x z w:QC)(b_x:Qab x)(b_z:Qab z)(b_w:Qab w)(hx:hO2 x):SCt 56 [gIi 2,.row ((Qae x).cells),.row ((Qae z).cells),.row ((Qae w).cells)] (.tup [.row (zFG),gIi 0,gIi 350]) :=
  (Classical.em ((((1 : Rat) - (nm z)).num.sign) ≤ 0)).elim (fun h0 => (Classical.em ((((1 : Rat) - (nm w)).num.sign) ≤ 0)).elim (fun h1 => Qai (L := Qhq x z w) Qad Qag
     (Qig x z w b_x b_z b_w)
     [bLt 3 45 hx,bLt 3 50 h0,bLt 3 55 h1] [] Qbx 1 3 Tryz.func56 eo56 2000 [lc 2,yR 0 8,yR 8 8,yR 16 8] (.tup [.row (zFA),lc 0,lc 350]))
   (fun h1=>Qai (L:=Qhq x z w) Qad Qag
     (Qig x z w b_x b_z b_w)
     [bLt 3 45 hx,bLt 3 50 h0,bLf 3 55 h1] [] Qbx 1 3 Tryz.func56 eo56 2000 [lc 2,yR 0 8,yR 8 8,yR 16 8] (.tup [.row (zFA),lc 0,lc 350])))
   (fun h0=>(Classical.em ((((1:Rat) - (nm w)).num.sign)≤0)).elim (fun h1=>Qai (L:=Qhq x z w) Qad Qag
     (Qig x z w b_x b_z b_w)
     [bLt 3 45 hx,bLf 3 50 h0,bLt 3 55 h1] [] Qbx 1 3 Tryz.func56 eo56 2000 [lc 2,yR 0 8,yR 8 8,yR 16 8] (.tup [.row (zFA),lc 0,lc 350]))
   (fun h1=>Qai (L:=Qhq x z w) Qad Qag
     (Qig x z w b_x b_z b_w)
     [bLt 3 45 hx,bLf 3 50 h0,bLf 3 55 h1] [] Qbx 1 3 Tryz.func56 eo56 2000 [lc 2,yR 0 8,yR 8 8,yR 16 8] (.tup [.row (zFA),lc 0,lc 350])))
def no_G2_o1_L(x z w:QC):List GF:=[(Qae x).cells,(Qae z).cells,(Qae w).cells,(Qae (⟨0,1⟩:QC)).cells,(Qae (⟨0,0⟩:QC)).cells,cn x,[gr (1:Rat)],[gr (nm x)],[gr ((1:Rat) - (nm x))],[gxi (((1:Rat) - (nm x)).num.sign)],cn z,[gr (nm z)],[gr ((1:Rat) - (nm z))],[gxi (((1:Rat) - (nm z)).num.sign)],cn w,[gr (nm w)],[gr ((1:Rat) - (nm w))],[gxi (((1:Rat) - (nm w)).num.sign)]].flatten
noncomputable def no_G2_o1_T1(x z w:QC)(b_x:Qab x)(b_z:Qab z)(b_w:Qab w):List (GC Tryz.prog (no_G2_o1_L x z w) true):=[gpi 0 1 24,gpi 0 0 32,gs (Qcg x b_x) [yR 0 8] (.tup [sy [40,41],cTt]),gs (pnr 1) [lc 1,lc 1] (rS 42),gs (Qbf x ((Qaa b_x).mn)) [sy [40,41]] (rS 43),gs (Qbb (1:Rat) (nm x) (ri 1) ((Qak (Qaa b_x)).mn)) [cS 42,cS 43] (rS 44),gs (Qal ((1:Rat) - (nm x))) [cS 44] (rS 45),gs (Qcg z b_z) [yR 8 8] (.tup [sy [46,47],cTt]),gs (Qbf z ((Qaa b_z).mn)) [sy [46,47]] (rS 48),gs (Qbb (1:Rat) (nm z) (ri 1) ((Qak (Qaa b_z)).mn)) [cS 42,cS 48] (rS 49),gs (Qal ((1:Rat) - (nm z))) [cS 49] (rS 50),gs (Qcg w b_w) [yR 16 8] (.tup [sy [51,52],cTt]),gs (Qbf w ((Qaa b_w).mn)) [sy [51,52]] (rS 53),gs (Qbb (1:Rat) (nm w) (ri 1) ((Qak (Qaa b_w)).mn)) [cS 42,cS 53] (rS 54),gs (Qal ((1:Rat) - (nm w))) [cS 54] (rS 55)]
theorem no_G2_o1(x z w:QC)(b_x:Qab x)(b_z:Qab z)(b_w:Qab w)(hx:hN2 x)(hz:hO2 z):SCt 56 [gIi 2,.row ((Qae x).cells),.row ((Qae z).cells),.row ((Qae w).cells)] (.tup [.row (zFG),gIi 0,gIi 350]) :=
  (Classical.em ((((1 : Rat) - (nm w)).num.sign) ≤ 0)).elim (fun h0 => Qai (L := no_G2_o1_L x z w) Qad Qag
     (no_G2_o1_T1 x z w b_x b_z b_w)
     [bLf 3 45 hx,bLt 3 50 hz,bLt 3 55 h0] [] Qbx 1 3 Tryz.func56 eo56 2000 [lc 2,yR 0 8,yR 8 8,yR 16 8] (.tup [.row (zFA),lc 0,lc 350]))
   (fun h0=>Qai (L:=no_G2_o1_L x z w) Qad Qag
     (no_G2_o1_T1 x z w b_x b_z b_w)
     [bLf 3 45 hx,bLt 3 50 hz,bLf 3 55 h0] [] Qbx 1 3 Tryz.func56 eo56 2000 [lc 2,yR 0 8,yR 8 8,yR 16 8] (.tup [.row (zFA),lc 0,lc 350]))
def no_G2_o2_L(x z w:QC):List GF:=[(Qae x).cells,(Qae z).cells,(Qae w).cells,(Qae (⟨0,1⟩:QC)).cells,(Qae (⟨0,0⟩:QC)).cells,cn x,[gr (1:Rat)],[gr (nm x)],[gr ((1:Rat) - (nm x))],[gxi (((1:Rat) - (nm x)).num.sign)],cn z,[gr (nm z)],[gr ((1:Rat) - (nm z))],[gxi (((1:Rat) - (nm z)).num.sign)],cn w,[gr (nm w)],[gr ((1:Rat) - (nm w))],[gxi (((1:Rat) - (nm w)).num.sign)]].flatten
theorem no_G2_o2(x z w:QC)(b_x:Qab x)(b_z:Qab z)(b_w:Qab w)(hx:hN2 x)(hz:hN2 z)(hw:hO2 w):SCt 56 [gIi 2,.row ((Qae x).cells),.row ((Qae z).cells),.row ((Qae w).cells)] (.tup [.row (zFG),gIi 0,gIi 350]) :=
  Qai (L := no_G2_o2_L x z w) Qad Qag
     [gpi 0 1 24,gpi 0 0 32,gs (Qcg x b_x) [yR 0 8] (.tup [sy [40,41],cTt]),gs (pnr 1) [lc 1,lc 1] (rS 42),gs (Qbf x ((Qaa b_x).mn)) [sy [40,41]] (rS 43),gs (Qbb (1:Rat) (nm x) (ri 1) ((Qak (Qaa b_x)).mn)) [cS 42,cS 43] (rS 44),gs (Qal ((1:Rat) - (nm x))) [cS 44] (rS 45),gs (Qcg z b_z) [yR 8 8] (.tup [sy [46,47],cTt]),gs (Qbf z ((Qaa b_z).mn)) [sy [46,47]] (rS 48),gs (Qbb (1:Rat) (nm z) (ri 1) ((Qak (Qaa b_z)).mn)) [cS 42,cS 48] (rS 49),gs (Qal ((1:Rat) - (nm z))) [cS 49] (rS 50),gs (Qcg w b_w) [yR 16 8] (.tup [sy [51,52],cTt]),gs (Qbf w ((Qaa b_w).mn)) [sy [51,52]] (rS 53),gs (Qbb (1:Rat) (nm w) (ri 1) ((Qak (Qaa b_w)).mn)) [cS 42,cS 53] (rS 54),gs (Qal ((1:Rat) - (nm w))) [cS 54] (rS 55)]
     [bLf 3 45 hx,bLf 3 50 hz,bLt 3 55 hw] [] Qbx 1 3 Tryz.func56 eo56 2000 [lc 2,yR 0 8,yR 8 8,yR 16 8] (.tup [.row (zFA),lc 0,lc 350])
theorem no_P2_0(x z w:Qbp)(b_x:Qbp.Sz x)(nk:¬(GOk x.val)):SMt 29 [(x.cells++z.cells++w.cells,28)] [.f (gIi 2),.sl 0 0 3 3] (.r (gIi 2)) :=
  Qcb (L := [x.cells,z.cells,w.cells].flatten) Qad Qag
     [gs (Qdl x false (fI nk)) [yR 0 8] vFf]
     [] [] Qcu 1 3 Tryz.func29 eo29 2000 [⟨Qav 0 24,28,none⟩] [lc 2,.c (.sl 0 0 3 3)] (.r (lc 2))
def no_P2_1_L(x:QC)(z w:Qbp):List GF:=[(Qae x).cells,z.cells,w.cells,cF (1:Rat),cF (nm x),cF ((1:Rat) - (nm x)),[gxi (((1:Rat) - (nm x)).num.sign)]].flatten
noncomputable def no_P2_1_T1(x:QC)(z w:Qbp)(b_x:Qab x)(nk:¬(GOk z.val)):List (GC Tryz.prog (no_P2_1_L x z w) true):=[gs (Qdl (Qae x) true (tI (Qcd b_x))) [yR 0 8] vTt,gs (Qea 1 (by decide) (by decide)) [lc 1] (rQ 24),gs (Qds x ((Qaa b_x).mn)) [yR 0 8] (rQ 27),gs (Qbk (1:Rat) (nm x) (ri 1) ((Qak (Qaa b_x)).mn)) [yQ 24,yQ 27] (rQ 30),gs (Qbu ((1:Rat) - (nm x))) [yQ 30] (rS 33),gs (Qdl z false (fI nk)) [yR 8 8] vFf]
theorem no_P2_1(x:QC)(z w:Qbp)(b_x:Qab x)(b_z:Qbp.Sz z)(b_w:Qbp.Sz w)(nk:¬(GOk z.val)):SMt 29 [((Qae x).cells++z.cells++w.cells,28)] [.f (gIi 2),.sl 0 0 3 3] (.r (gIi 2)) :=
  (Classical.em ((((1 : Rat) - (nm x)).num.sign) > 0)).elim (fun h0 => Qcb (L := no_P2_1_L x z w) Qad Qag
     (no_P2_1_T1 x z w b_x nk)
     [gtY 3 (.sym 33) (li 0) (((1:Rat) - (nm x)).num.sign) 0 h0] [] Qcu 1 3 Tryz.func29 eo29 2000 [⟨Qav 0 24,28,none⟩] [lc 2,.c (.sl 0 0 3 3)] (.r (lc 2)))
   (fun h0=>Qcb (L:=no_P2_1_L x z w) Qad Qag
     (no_P2_1_T1 x z w b_x nk)
     [gtN 3 (.sym 33) (li 0) (((1:Rat) - (nm x)).num.sign) 0 h0] [] Qcu 1 3 Tryz.func29 eo29 2000 [⟨Qav 0 24,28,none⟩] [lc 2,.c (.sl 0 0 3 3)] (.r (lc 2)))
def no_P2_2_L(x z:QC)(w:Qbp):List GF:=[(Qae x).cells,(Qae z).cells,w.cells,cF (1:Rat),cF (nm x),cF ((1:Rat) - (nm x)),[gxi (((1:Rat) - (nm x)).num.sign)],cF (nm z),cF ((1:Rat) - (nm z)),[gxi (((1:Rat) - (nm z)).num.sign)]].flatten
noncomputable def no_P2_2_T1(x z:QC)(w:Qbp)(b_x:Qab x)(b_z:Qab z)(nk:¬(GOk w.val)):List (GC Tryz.prog (no_P2_2_L x z w) true):=[gs (Qdl (Qae x) true (tI (Qcd b_x))) [yR 0 8] vTt,gs (Qea 1 (by decide) (by decide)) [lc 1] (rQ 24),gs (Qds x ((Qaa b_x).mn)) [yR 0 8] (rQ 27),gs (Qbk (1:Rat) (nm x) (ri 1) ((Qak (Qaa b_x)).mn)) [yQ 24,yQ 27] (rQ 30),gs (Qbu ((1:Rat) - (nm x))) [yQ 30] (rS 33),gs (Qdl (Qae z) true (tI (Qcd b_z))) [yR 8 8] vTt,gs (Qds z ((Qaa b_z).mn)) [yR 8 8] (rQ 34),gs (Qbk (1:Rat) (nm z) (ri 1) ((Qak (Qaa b_z)).mn)) [yQ 24,yQ 34] (rQ 37),gs (Qbu ((1:Rat) - (nm z))) [yQ 37] (rS 40),gs (Qdl w false (fI nk)) [yR 16 8] vFf]
theorem no_P2_2(x z:QC)(w:Qbp)(b_x:Qab x)(b_z:Qab z)(b_w:Qbp.Sz w)(nk:¬(GOk w.val)):SMt 29 [((Qae x).cells++(Qae z).cells++w.cells,28)] [.f (gIi 2),.sl 0 0 3 3] (.r (gIi 2)) :=
  (Classical.em ((((1 : Rat) - (nm x)).num.sign) > 0)).elim (fun h0 => (Classical.em ((((1 : Rat) - (nm z)).num.sign) > 0)).elim (fun h1 => Qcb (L := no_P2_2_L x z w) Qad Qag
     (no_P2_2_T1 x z w b_x b_z nk)
     [gtY 3 (.sym 33) (li 0) (((1:Rat) - (nm x)).num.sign) 0 h0,gtY 3 (.sym 40) (li 0) (((1:Rat) - (nm z)).num.sign) 0 h1] [] Qcu 1 3 Tryz.func29 eo29 2000 [⟨Qav 0 24,28,none⟩] [lc 2,.c (.sl 0 0 3 3)] (.r (lc 2)))
   (fun h1=>Qcb (L:=no_P2_2_L x z w) Qad Qag
     (no_P2_2_T1 x z w b_x b_z nk)
     [gtY 3 (.sym 33) (li 0) (((1:Rat) - (nm x)).num.sign) 0 h0,gtN 3 (.sym 40) (li 0) (((1:Rat) - (nm z)).num.sign) 0 h1] [] Qcu 1 3 Tryz.func29 eo29 2000 [⟨Qav 0 24,28,none⟩] [lc 2,.c (.sl 0 0 3 3)] (.r (lc 2))))
   (fun h0=>(Classical.em ((((1:Rat) - (nm z)).num.sign)>0)).elim (fun h1=>Qcb (L:=no_P2_2_L x z w) Qad Qag
     (no_P2_2_T1 x z w b_x b_z nk)
     [gtN 3 (.sym 33) (li 0) (((1:Rat) - (nm x)).num.sign) 0 h0,gtY 3 (.sym 40) (li 0) (((1:Rat) - (nm z)).num.sign) 0 h1] [] Qcu 1 3 Tryz.func29 eo29 2000 [⟨Qav 0 24,28,none⟩] [lc 2,.c (.sl 0 0 3 3)] (.r (lc 2)))
   (fun h1=>Qcb (L:=no_P2_2_L x z w) Qad Qag
     (no_P2_2_T1 x z w b_x b_z nk)
     [gtN 3 (.sym 33) (li 0) (((1:Rat) - (nm x)).num.sign) 0 h0,gtN 3 (.sym 40) (li 0) (((1:Rat) - (nm z)).num.sign) 0 h1] [] Qcu 1 3 Tryz.func29 eo29 2000 [⟨Qav 0 24,28,none⟩] [lc 2,.c (.sl 0 0 3 3)] (.r (lc 2))))
def Qhs(x z w:QC):List GF:=[(Qae x).cells,(Qae z).cells,(Qae w).cells,cF (1:Rat),cF (nm x),cF ((1:Rat) - (nm x)),[gxi (((1:Rat) - (nm x)).num.sign)],cF (nm z),cF ((1:Rat) - (nm z)),[gxi (((1:Rat) - (nm z)).num.sign)],cF (nm w),cF ((1:Rat) - (nm w)),[gxi (((1:Rat) - (nm w)).num.sign)]].flatten
noncomputable def Qii(x z w:QC)(b_x:Qab x)(b_z:Qab z)(b_w:Qab w):List (GC Tryz.prog (Qhs x z w) true):=[gs (Qdl (Qae x) true (tI (Qcd b_x))) [yR 0 8] vTt,gs (Qea 1 (by decide) (by decide)) [lc 1] (rQ 24),gs (Qds x ((Qaa b_x).mn)) [yR 0 8] (rQ 27),gs (Qbk (1:Rat) (nm x) (ri 1) ((Qak (Qaa b_x)).mn)) [yQ 24,yQ 27] (rQ 30),gs (Qbu ((1:Rat) - (nm x))) [yQ 30] (rS 33),gs (Qdl (Qae z) true (tI (Qcd b_z))) [yR 8 8] vTt,gs (Qds z ((Qaa b_z).mn)) [yR 8 8] (rQ 34),gs (Qbk (1:Rat) (nm z) (ri 1) ((Qak (Qaa b_z)).mn)) [yQ 24,yQ 34] (rQ 37),gs (Qbu ((1:Rat) - (nm z))) [yQ 37] (rS 40),gs (Qdl (Qae w) true (tI (Qcd b_w))) [yR 16 8] vTt,gs (Qds w ((Qaa b_w).mn)) [yR 16 8] (rQ 41),gs (Qbk (1:Rat) (nm w) (ri 1) ((Qak (Qaa b_w)).mn)) [yQ 24,yQ 41] (rQ 44),gs (Qbu ((1:Rat) - (nm w))) [yQ 44] (rS 47)]
theorem no_P2_o0(x z w:QC)(b_x:Qab x)(b_z:Qab z)(b_w:Qab w)(hx:hO2 x):SMt 29 [((Qae x).cells++(Qae z).cells++(Qae w).cells,28)] [.f (gIi 2),.sl 0 0 3 3] (.r (gIi 350)) :=
  (Classical.em ((((1 : Rat) - (nm z)).num.sign) > 0)).elim (fun h0 => (Classical.em ((((1 : Rat) - (nm w)).num.sign) > 0)).elim (fun h1 => Qcb (L := Qhs x z w) Qad Qag
     (Qii x z w b_x b_z b_w)
     [gtN 3 (.sym 33) (li 0) (((1:Rat) - (nm x)).num.sign) 0 (sg_n hx),gtY 3 (.sym 40) (li 0) (((1:Rat) - (nm z)).num.sign) 0 h0,gtY 3 (.sym 47) (li 0) (((1:Rat) - (nm w)).num.sign) 0 h1] [] Qcu 1 3 Tryz.func29 eo29 2000 [⟨Qav 0 24,28,none⟩] [lc 2,.c (.sl 0 0 3 3)] (.r (lc 350)))
   (fun h1=>Qcb (L:=Qhs x z w) Qad Qag
     (Qii x z w b_x b_z b_w)
     [gtN 3 (.sym 33) (li 0) (((1:Rat) - (nm x)).num.sign) 0 (sg_n hx),gtY 3 (.sym 40) (li 0) (((1:Rat) - (nm z)).num.sign) 0 h0,gtN 3 (.sym 47) (li 0) (((1:Rat) - (nm w)).num.sign) 0 h1] [] Qcu 1 3 Tryz.func29 eo29 2000 [⟨Qav 0 24,28,none⟩] [lc 2,.c (.sl 0 0 3 3)] (.r (lc 350))))
   (fun h0=>(Classical.em ((((1:Rat) - (nm w)).num.sign)>0)).elim (fun h1=>Qcb (L:=Qhs x z w) Qad Qag
     (Qii x z w b_x b_z b_w)
     [gtN 3 (.sym 33) (li 0) (((1:Rat) - (nm x)).num.sign) 0 (sg_n hx),gtN 3 (.sym 40) (li 0) (((1:Rat) - (nm z)).num.sign) 0 h0,gtY 3 (.sym 47) (li 0) (((1:Rat) - (nm w)).num.sign) 0 h1] [] Qcu 1 3 Tryz.func29 eo29 2000 [⟨Qav 0 24,28,none⟩] [lc 2,.c (.sl 0 0 3 3)] (.r (lc 350)))
   (fun h1=>Qcb (L:=Qhs x z w) Qad Qag
     (Qii x z w b_x b_z b_w)
     [gtN 3 (.sym 33) (li 0) (((1:Rat) - (nm x)).num.sign) 0 (sg_n hx),gtN 3 (.sym 40) (li 0) (((1:Rat) - (nm z)).num.sign) 0 h0,gtN 3 (.sym 47) (li 0) (((1:Rat) - (nm w)).num.sign) 0 h1] [] Qcu 1 3 Tryz.func29 eo29 2000 [⟨Qav 0 24,28,none⟩] [lc 2,.c (.sl 0 0 3 3)] (.r (lc 350))))
def no_P2_o1_L(x z w:QC):List GF:=[(Qae x).cells,(Qae z).cells,(Qae w).cells,cF (1:Rat),cF (nm x),cF ((1:Rat) - (nm x)),[gxi (((1:Rat) - (nm x)).num.sign)],cF (nm z),cF ((1:Rat) - (nm z)),[gxi (((1:Rat) - (nm z)).num.sign)],cF (nm w),cF ((1:Rat) - (nm w)),[gxi (((1:Rat) - (nm w)).num.sign)]].flatten
noncomputable def no_P2_o1_T1(x z w:QC)(b_x:Qab x)(b_z:Qab z)(b_w:Qab w):List (GC Tryz.prog (no_P2_o1_L x z w) true):=[gs (Qdl (Qae x) true (tI (Qcd b_x))) [yR 0 8] vTt,gs (Qea 1 (by decide) (by decide)) [lc 1] (rQ 24),gs (Qds x ((Qaa b_x).mn)) [yR 0 8] (rQ 27),gs (Qbk (1:Rat) (nm x) (ri 1) ((Qak (Qaa b_x)).mn)) [yQ 24,yQ 27] (rQ 30),gs (Qbu ((1:Rat) - (nm x))) [yQ 30] (rS 33),gs (Qdl (Qae z) true (tI (Qcd b_z))) [yR 8 8] vTt,gs (Qds z ((Qaa b_z).mn)) [yR 8 8] (rQ 34),gs (Qbk (1:Rat) (nm z) (ri 1) ((Qak (Qaa b_z)).mn)) [yQ 24,yQ 34] (rQ 37),gs (Qbu ((1:Rat) - (nm z))) [yQ 37] (rS 40),gs (Qdl (Qae w) true (tI (Qcd b_w))) [yR 16 8] vTt,gs (Qds w ((Qaa b_w).mn)) [yR 16 8] (rQ 41),gs (Qbk (1:Rat) (nm w) (ri 1) ((Qak (Qaa b_w)).mn)) [yQ 24,yQ 41] (rQ 44),gs (Qbu ((1:Rat) - (nm w))) [yQ 44] (rS 47)]
theorem no_P2_o1(x z w:QC)(b_x:Qab x)(b_z:Qab z)(b_w:Qab w)(hx:hN2 x)(hz:hO2 z):SMt 29 [((Qae x).cells++(Qae z).cells++(Qae w).cells,28)] [.f (gIi 2),.sl 0 0 3 3] (.r (gIi 350)) :=
  (Classical.em ((((1 : Rat) - (nm w)).num.sign) > 0)).elim (fun h0 => Qcb (L := no_P2_o1_L x z w) Qad Qag
     (no_P2_o1_T1 x z w b_x b_z b_w)
     [gtY 3 (.sym 33) (li 0) (((1:Rat) - (nm x)).num.sign) 0 (sg_y hx),gtN 3 (.sym 40) (li 0) (((1:Rat) - (nm z)).num.sign) 0 (sg_n hz),gtY 3 (.sym 47) (li 0) (((1:Rat) - (nm w)).num.sign) 0 h0] [] Qcu 1 3 Tryz.func29 eo29 2000 [⟨Qav 0 24,28,none⟩] [lc 2,.c (.sl 0 0 3 3)] (.r (lc 350)))
   (fun h0=>Qcb (L:=no_P2_o1_L x z w) Qad Qag
     (no_P2_o1_T1 x z w b_x b_z b_w)
     [gtY 3 (.sym 33) (li 0) (((1:Rat) - (nm x)).num.sign) 0 (sg_y hx),gtN 3 (.sym 40) (li 0) (((1:Rat) - (nm z)).num.sign) 0 (sg_n hz),gtN 3 (.sym 47) (li 0) (((1:Rat) - (nm w)).num.sign) 0 h0] [] Qcu 1 3 Tryz.func29 eo29 2000 [⟨Qav 0 24,28,none⟩] [lc 2,.c (.sl 0 0 3 3)] (.r (lc 350)))
theorem no_P2_o2(x z w:QC)(b_x:Qab x)(b_z:Qab z)(b_w:Qab w)(hx:hN2 x)(hz:hN2 z)(hw:hO2 w):SMt 29 [((Qae x).cells++(Qae z).cells++(Qae w).cells,28)] [.f (gIi 2),.sl 0 0 3 3] (.r (gIi 350)) :=
  Qcb (L := [(Qae x).cells,(Qae z).cells,(Qae w).cells,cF (1 : Rat),cF (nm x),cF ((1 : Rat) - (nm x)),[gxi (((1 : Rat) - (nm x)).num.sign)],cF (nm z),cF ((1 : Rat) - (nm z)),[gxi (((1 : Rat) - (nm z)).num.sign)],cF (nm w),cF ((1 : Rat) - (nm w)),[gxi (((1 : Rat) - (nm w)).num.sign)]].flatten) Qad Qag
     [gs (Qdl (Qae x) true (tI (Qcd b_x))) [yR 0 8] vTt,gs (Qea 1 (by decide) (by decide)) [lc 1] (rQ 24),gs (Qds x ((Qaa b_x).mn)) [yR 0 8] (rQ 27),gs (Qbk (1:Rat) (nm x) (ri 1) ((Qak (Qaa b_x)).mn)) [yQ 24,yQ 27] (rQ 30),gs (Qbu ((1:Rat) - (nm x))) [yQ 30] (rS 33),gs (Qdl (Qae z) true (tI (Qcd b_z))) [yR 8 8] vTt,gs (Qds z ((Qaa b_z).mn)) [yR 8 8] (rQ 34),gs (Qbk (1:Rat) (nm z) (ri 1) ((Qak (Qaa b_z)).mn)) [yQ 24,yQ 34] (rQ 37),gs (Qbu ((1:Rat) - (nm z))) [yQ 37] (rS 40),gs (Qdl (Qae w) true (tI (Qcd b_w))) [yR 16 8] vTt,gs (Qds w ((Qaa b_w).mn)) [yR 16 8] (rQ 41),gs (Qbk (1:Rat) (nm w) (ri 1) ((Qak (Qaa b_w)).mn)) [yQ 24,yQ 41] (rQ 44),gs (Qbu ((1:Rat) - (nm w))) [yQ 44] (rS 47)]
     [gtY 3 (.sym 33) (li 0) (((1:Rat) - (nm x)).num.sign) 0 (sg_y hx),gtY 3 (.sym 40) (li 0) (((1:Rat) - (nm z)).num.sign) 0 (sg_y hz),gtN 3 (.sym 47) (li 0) (((1:Rat) - (nm w)).num.sign) 0 (sg_n hw)] [] Qcu 1 3 Tryz.func29 eo29 2000 [⟨Qav 0 24,28,none⟩] [lc 2,.c (.sl 0 0 3 3)] (.r (lc 350))
theorem no_N2_0(x:Qbp)(b_x:Qbp.Sz x)(nk:¬(GOk x.val)):SMt 29 [(x.cells,28)] [.f (gIi 2),.sl 0 0 1 1] (.r (gIi 2)) :=
  Qcb (L := [x.cells].flatten) Qad Qag
     [gs (Qdl x false (fI nk)) [yR 0 8] vFf]
     [] [] Qcu 1 3 Tryz.func29 eo29 2000 [⟨Qav 0 8,28,none⟩] [lc 2,.c (.sl 0 0 1 1)] (.r (lc 2))
theorem no_N2_o0(x:QC)(b_x:Qab x)(hx:hO2 x):SMt 29 [((Qae x).cells,28)] [.f (gIi 2),.sl 0 0 1 1] (.r (gIi 350)) :=
  Qcb (L := [(Qae x).cells,cF (1 : Rat),cF (nm x),cF ((1 : Rat) - (nm x)),[gxi (((1 : Rat) - (nm x)).num.sign)]].flatten) Qad Qag
     [gs (Qdl (Qae x) true (tI (Qcd b_x))) [yR 0 8] vTt,gs (Qea 1 (by decide) (by decide)) [lc 1] (rQ 8),gs (Qds x ((Qaa b_x).mn)) [yR 0 8] (rQ 11),gs (Qbk (1:Rat) (nm x) (ri 1) ((Qak (Qaa b_x)).mn)) [yQ 8,yQ 11] (rQ 14),gs (Qbu ((1:Rat) - (nm x))) [yQ 14] (rS 17)]
     [gtN 3 (.sym 17) (li 0) (((1:Rat) - (nm x)).num.sign) 0 (sg_n hx)] [] Qcu 1 3 Tryz.func29 eo29 2000 [⟨Qav 0 8,28,none⟩] [lc 2,.c (.sl 0 0 1 1)] (.r (lc 350))
theorem no_A2_0(x:Qbp)(y:Qdg)(b_x:Qbp.Sz x)(b_y:y.Sz)(nk:¬(GOk x.val)):SCt 54 [gIi 2,.row (x.cells),.row (y.cells)] (.tup [.row (zGG++zGG),gIi 2]) :=
  Qai (L := [x.cells,y.cells,(Qae (⟨0,1⟩ : QC)).cells,(Qae (⟨0,0⟩ : QC)).cells,[ga,ga],[ga]].flatten) Qad Qag
     [gpi 0 1 12,gpi 0 0 20,gs (pEOfR x b_x false (fI nk)) [yR 0 8] (.tup [sy [28,29],cFf]),gs (pERatA y b_y) [yR 8 4] (rS 30)]
     [] [] Qbx 1 3 Tryz.func54 eo54 2000 [lc 2,yR 0 8,yR 8 4] (.tup [.row (flA [zGA,zGA]),lc 2])
def no_A2_y_L(x:QC)(y:Qdg):List GF:=[(Qae x).cells,y.cells,(Qae (⟨0,1⟩:QC)).cells,(Qae (⟨0,0⟩:QC)).cells,cn x,[gr (1:Rat)],[gr (nm x)],[gr ((1:Rat) - (nm x))],[gxi (((1:Rat) - (nm x)).num.sign)]].flatten
noncomputable def no_A2_y_T1(x:QC)(y:Qdg)(b_x:Qab x)(b_y:y.Sz)(ny:¬(Qde y.val)):List (GC Tryz.prog (no_A2_y_L x y) true):=[gpi 0 1 12,gpi 0 0 20,gs (Qcg x b_x) [yR 0 8] (.tup [sy [28,29],cTt]),gs (pnr 1) [lc 1,lc 1] (rS 30),gs (Qbf x ((Qaa b_x).mn)) [sy [28,29]] (rS 31),gs (Qbb (1:Rat) (nm x) (ri 1) ((Qak (Qaa b_x)).mn)) [cS 30,cS 31] (rS 32),gs (Qal ((1:Rat) - (nm x))) [cS 32] (rS 33),gs (pERatN y b_y ny) [yR 8 4] (.r (.c (.lit .nilp)))]
theorem no_A2_y(x:QC)(y:Qdg)(b_x:Qab x)(b_y:y.Sz)(ny:¬(Qde y.val)):SCt 54 [gIi 2,.row ((Qae x).cells),.row (y.cells)] (.tup [.row (zGG++zGG),gIi 2]) :=
  (Classical.em ((((1 : Rat) - (nm x)).num.sign) ≤ 0)).elim (fun h0 => Qai (L := no_A2_y_L x y) Qad Qag
     (no_A2_y_T1 x y b_x b_y ny)
     [bLt 3 33 h0,gb .eql 114 (.c (.lit .nilp)) (.c (.lit .nilp)) lTt (fun _ _ _=>by kernel_rfl) (vx:=.pointer none) (vy:=.pointer none) (v:=.bool true) (by kernel_rfl) (by kernel_rfl) (by kernel_rfl)] [] Qbx 1 3 Tryz.func54 eo54 2000 [lc 2,yR 0 8,yR 8 4] (.tup [.row (flA [zGA,zGA]),lc 2]))
   (fun h0=>Qai (L:=no_A2_y_L x y) Qad Qag
     (no_A2_y_T1 x y b_x b_y ny)
     [bLf 3 33 h0,gb .eql 114 (.c (.lit .nilp)) (.c (.lit .nilp)) lTt (fun _ _ _=>by kernel_rfl) (vx:=.pointer none) (vy:=.pointer none) (v:=.bool true) (by kernel_rfl) (by kernel_rfl) (by kernel_rfl)] [] Qbx 1 3 Tryz.func54 eo54 2000 [lc 2,yR 0 8,yR 8 4] (.tup [.row (flA [zGA,zGA]),lc 2]))
def no_A2_1_L(x:QC)(y:Rat):List GF:=[(Qae x).cells,cF y,(Qae (⟨0,1⟩:QC)).cells,(Qae (⟨0,0⟩:QC)).cells,cn x,[gr (1:Rat)],[gr (nm x)],[gr ((1:Rat) - (nm x))],[gxi (((1:Rat) - (nm x)).num.sign)],[gr y],[gxi (Qfo y (1:Rat))]].flatten
noncomputable def no_A2_1_T1(x:QC)(y:Rat)(b_x:Qab x)(b_y:RL y 1024)(hsy:Qap y):List (GC Tryz.prog (no_A2_1_L x y) true):=[gpi 0 1 11,gpi 0 0 19,gs (Qcg x b_x) [yR 0 8] (.tup [sy [27,28],cTt]),gs (pnr 1) [lc 1,lc 1] (rS 29),gs (Qbf x ((Qaa b_x).mn)) [sy [27,28]] (rS 30),gs (Qbb (1:Rat) (nm x) (ri 1) ((Qak (Qaa b_x)).mn)) [cS 29,cS 30] (rS 31),gs (Qal ((1:Rat) - (nm x))) [cS 31] (rS 32),gs (pERat y hsy) [yQ 8] (rS 33),gs (pRCmp y (1:Rat) b_y (rj 1) (by decide)) [cS 33,cS 29] (rS 34)]
theorem no_A2_1(x:QC)(y:Rat)(b_x:Qab x)(b_y:RL y 1024)(hsy:Qap y)(hy:(Qfo y (1:Rat))≤0):SCt 54 [gIi 2,.row ((Qae x).cells),.row (rF y)] (.tup [.row (zGG++zGG),gIi 2]) :=
  (Classical.em ((((1 : Rat) - (nm x)).num.sign) ≤ 0)).elim (fun h0 => Qai (L := no_A2_1_L x y) Qad Qag
     (no_A2_1_T1 x y b_x b_y hsy)
     [bLt 3 32 h0,gbNilR y (.sym 33),bLt 3 34 hy] [] Qbx 1 3 Tryz.func54 eo54 2000 [lc 2,yR 0 8,yQ 8] (.tup [.row (flA [zGA,zGA]),lc 2]))
   (fun h0=>Qai (L:=no_A2_1_L x y) Qad Qag
     (no_A2_1_T1 x y b_x b_y hsy)
     [bLf 3 32 h0,gbNilR y (.sym 33),bLt 3 34 hy] [] Qbx 1 3 Tryz.func54 eo54 2000 [lc 2,yR 0 8,yQ 8] (.tup [.row (flA [zGA,zGA]),lc 2]))
theorem no_A2_o(x:QC)(y:Rat)(b_x:Qab x)(b_y:RL y 1024)(hx:hO2 x)(hsy:Qap y)(hy:¬((Qfo y (1:Rat))≤0)):SCt 54 [gIi 2,.row ((Qae x).cells),.row (rF y)] (.tup [.row (zGG++zGG),gIi 350]) :=
  Qai (L := [(Qae x).cells,cF y,(Qae (⟨0,1⟩ : QC)).cells,(Qae (⟨0,0⟩ : QC)).cells,cn x,[gr (1 : Rat)],[gr (nm x)],[gr ((1 : Rat) - (nm x))],[gxi (((1 : Rat) - (nm x)).num.sign)],[gr y],[gxi (Qfo y (1 : Rat))]].flatten) Qad Qag
     [gpi 0 1 11,gpi 0 0 19,gs (Qcg x b_x) [yR 0 8] (.tup [sy [27,28],cTt]),gs (pnr 1) [lc 1,lc 1] (rS 29),gs (Qbf x ((Qaa b_x).mn)) [sy [27,28]] (rS 30),gs (Qbb (1:Rat) (nm x) (ri 1) ((Qak (Qaa b_x)).mn)) [cS 29,cS 30] (rS 31),gs (Qal ((1:Rat) - (nm x))) [cS 31] (rS 32),gs (pERat y hsy) [yQ 8] (rS 33),gs (pRCmp y (1:Rat) b_y (rj 1) (by decide)) [cS 33,cS 29] (rS 34),gs (pFMayQ y hsy) [yQ 8] vTt]
     [bLt 3 32 hx,gbNilR y (.sym 33),bLf 3 34 hy] [] Qbx 1 3 Tryz.func54 eo54 2000 [lc 2,yR 0 8,yQ 8] (.tup [.row (flA [zGA,zGA]),lc 350])
end Go.Proofs.YtmimficdpfmfgaaGreat
