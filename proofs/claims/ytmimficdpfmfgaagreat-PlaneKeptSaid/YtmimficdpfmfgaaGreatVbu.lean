/- Laws for the walk. -/
import Derived.Test.YtmimficdpfmfgaaGreatVbs
set_option linter.unusedVariables false
set_option linter.unusedSimpArgs false
set_option maxHeartbeats 4000000
set_option maxRecDepth 100000
namespace Go.Proofs.YtmimficdpfmfgaaGreat
open Go.RowKit Tr
open Classical
theorem Qci:FnsOk Tryz.prog [⟨13,Tryz.f13,2000⟩,⟨96,Tryz.f96,2000⟩,⟨136,Tryz.f136,2000⟩,⟨138,Tryz.f138,2000⟩]:=(fs13 (fs96 (fs136 (fs138 .nil))))
theorem n4_N(p:Int)(z w u v:Qdc)(hp1:¬(p=1))(hp2:¬(p=2)):SMt 29 [(z.cells++w.cells++u.cells++v.cells,28)] [.f (.c (gxi p)),.sl 0 0 4 4] (.r (gIi 2)) :=
  Qaw (L := [[gxi p],z.cells,w.cells,u.cells,v.cells].flatten) Qae Qai
     []
     [bI .eql 22 (.sym 0) (li 1) p 1 false (by simp[Qed,hp1]),bI .eql 22 (.sym 0) (li 2) p 2 false (by simp[Qed,hp2])] [] Qci 1 3 Tryz.func29 eo29 2000 [⟨Qaj 1 32,28,none⟩] [cS 0,.c (.sl 0 0 4 4)] (.r (lc 2))
theorem n4_1_0(z w u v:Qdc)(nk:¬(GOk z.val)):SMt 29 [(z.cells++w.cells++u.cells++v.cells,28)] [.f (gIi 1),.sl 0 0 4 4] (.r (gIi 2)) :=
  Qaw (L := [z.cells,w.cells,u.cells,v.cells].flatten) Qae Qai
     [gs (Qcj z false (fI nk)) [yR 0 8] vFf]
     [] [] Qci 1 3 Tryz.func29 eo29 2000 [⟨Qaj 0 32,28,none⟩] [lc 1,.c (.sl 0 0 4 4)] (.r (lc 2))
def n4_1_1_L(z:QC)(w u v:Qdc):List GF:=[(Qad z).cells,w.cells,u.cells,v.cells,[gxi z.im.num.sign]].flatten
theorem n4_1_1(z:QC)(w u v:Qdc)(b_z:Qab z)(nk:¬(GOk w.val)):SMt 29 [((Qad z).cells++w.cells++u.cells++v.cells,28)] [.f (gIi 1),.sl 0 0 4 4] (.r (gIi 2)) :=
  (Classical.em (z.im.num.sign > 0)).elim (fun h0 => Qaw (L := n4_1_1_L z w u v) Qae Qai
     [gs (Qcj (Qad z) true (tI (Qav b_z))) [yR 0 8] vTt,gs (Qbo z.im) [yR 4 4] (rS 32),gs (Qcj w false (fI nk)) [yR 8 8] vFf]
     [gtY 3 (.sym 32) (li 0) z.im.num.sign 0 h0] [] Qci 1 3 Tryz.func29 eo29 2000 [⟨Qaj 0 32,28,none⟩] [lc 1,.c (.sl 0 0 4 4)] (.r (lc 2)))
   (fun h0=>Qaw (L:=n4_1_1_L z w u v) Qae Qai
     [gs (Qcj (Qad z) true (tI (Qav b_z))) [yR 0 8] vTt,gs (Qbo z.im) [yR 4 4] (rS 32),gs (Qcj w false (fI nk)) [yR 8 8] vFf]
     [gtN 3 (.sym 32) (li 0) z.im.num.sign 0 h0] [] Qci 1 3 Tryz.func29 eo29 2000 [⟨Qaj 0 32,28,none⟩] [lc 1,.c (.sl 0 0 4 4)] (.r (lc 2)))
def n4_1_2_L(z w:QC)(u v:Qdc):List GF:=[(Qad z).cells,(Qad w).cells,u.cells,v.cells,[gxi z.im.num.sign],[gxi w.im.num.sign]].flatten
noncomputable def n4_1_2_T1(z w:QC)(u v:Qdc)(b_z:Qab z)(b_w:Qab w)(nk:¬(GOk u.val)):List (GC Tryz.prog (n4_1_2_L z w u v) true):=[gs (Qcj (Qad z) true (tI (Qav b_z))) [yR 0 8] vTt,gs (Qbo z.im) [yR 4 4] (rS 32),gs (Qcj (Qad w) true (tI (Qav b_w))) [yR 8 8] vTt,gs (Qbo w.im) [yR 12 4] (rS 33),gs (Qcj u false (fI nk)) [yR 16 8] vFf]
theorem n4_1_2(z w:QC)(u v:Qdc)(b_z:Qab z)(b_w:Qab w)(nk:¬(GOk u.val)):SMt 29 [((Qad z).cells++(Qad w).cells++u.cells++v.cells,28)] [.f (gIi 1),.sl 0 0 4 4] (.r (gIi 2)) :=
  (Classical.em (z.im.num.sign > 0)).elim (fun h0 => (Classical.em (w.im.num.sign > 0)).elim (fun h1 => Qaw (L := n4_1_2_L z w u v) Qae Qai
     (n4_1_2_T1 z w u v b_z b_w nk)
     [gtY 3 (.sym 32) (li 0) z.im.num.sign 0 h0,gtY 3 (.sym 33) (li 0) w.im.num.sign 0 h1] [] Qci 1 3 Tryz.func29 eo29 2000 [⟨Qaj 0 32,28,none⟩] [lc 1,.c (.sl 0 0 4 4)] (.r (lc 2)))
   (fun h1=>Qaw (L:=n4_1_2_L z w u v) Qae Qai
     (n4_1_2_T1 z w u v b_z b_w nk)
     [gtY 3 (.sym 32) (li 0) z.im.num.sign 0 h0,gtN 3 (.sym 33) (li 0) w.im.num.sign 0 h1] [] Qci 1 3 Tryz.func29 eo29 2000 [⟨Qaj 0 32,28,none⟩] [lc 1,.c (.sl 0 0 4 4)] (.r (lc 2))))
   (fun h0=>(Classical.em (w.im.num.sign>0)).elim (fun h1=>Qaw (L:=n4_1_2_L z w u v) Qae Qai
     (n4_1_2_T1 z w u v b_z b_w nk)
     [gtN 3 (.sym 32) (li 0) z.im.num.sign 0 h0,gtY 3 (.sym 33) (li 0) w.im.num.sign 0 h1] [] Qci 1 3 Tryz.func29 eo29 2000 [⟨Qaj 0 32,28,none⟩] [lc 1,.c (.sl 0 0 4 4)] (.r (lc 2)))
   (fun h1=>Qaw (L:=n4_1_2_L z w u v) Qae Qai
     (n4_1_2_T1 z w u v b_z b_w nk)
     [gtN 3 (.sym 32) (li 0) z.im.num.sign 0 h0,gtN 3 (.sym 33) (li 0) w.im.num.sign 0 h1] [] Qci 1 3 Tryz.func29 eo29 2000 [⟨Qaj 0 32,28,none⟩] [lc 1,.c (.sl 0 0 4 4)] (.r (lc 2))))
def Qgp(z w u:QC)(v:Qdc):List GF:=[(Qad z).cells,(Qad w).cells,(Qad u).cells,v.cells,[gxi z.im.num.sign],[gxi w.im.num.sign],[gxi u.im.num.sign]].flatten
noncomputable def Qgf(z w u:QC)(v:Qdc)(b_z:Qab z)(b_w:Qab w)(b_u:Qab u)(nk:¬(GOk v.val)):List (GC Tryz.prog (Qgp z w u v) true):=[gs (Qcj (Qad z) true (tI (Qav b_z))) [yR 0 8] vTt,gs (Qbo z.im) [yR 4 4] (rS 32),gs (Qcj (Qad w) true (tI (Qav b_w))) [yR 8 8] vTt,gs (Qbo w.im) [yR 12 4] (rS 33),gs (Qcj (Qad u) true (tI (Qav b_u))) [yR 16 8] vTt,gs (Qbo u.im) [yR 20 4] (rS 34),gs (Qcj v false (fI nk)) [yR 24 8] vFf]
theorem n4_1_3(z w u:QC)(v:Qdc)(b_z:Qab z)(b_w:Qab w)(b_u:Qab u)(nk:¬(GOk v.val)):SMt 29 [((Qad z).cells++(Qad w).cells++(Qad u).cells++v.cells,28)] [.f (gIi 1),.sl 0 0 4 4] (.r (gIi 2)) :=
  (Classical.em (z.im.num.sign > 0)).elim (fun h0 => (Classical.em (w.im.num.sign > 0)).elim (fun h1 => (Classical.em (u.im.num.sign > 0)).elim (fun h2 => Qaw (L := Qgp z w u v) Qae Qai
     (Qgf z w u v b_z b_w b_u nk)
     [gtY 3 (.sym 32) (li 0) z.im.num.sign 0 h0,gtY 3 (.sym 33) (li 0) w.im.num.sign 0 h1,gtY 3 (.sym 34) (li 0) u.im.num.sign 0 h2] [] Qci 1 3 Tryz.func29 eo29 2000 [⟨Qaj 0 32,28,none⟩] [lc 1,.c (.sl 0 0 4 4)] (.r (lc 2)))
   (fun h2=>Qaw (L:=Qgp z w u v) Qae Qai
     (Qgf z w u v b_z b_w b_u nk)
     [gtY 3 (.sym 32) (li 0) z.im.num.sign 0 h0,gtY 3 (.sym 33) (li 0) w.im.num.sign 0 h1,gtN 3 (.sym 34) (li 0) u.im.num.sign 0 h2] [] Qci 1 3 Tryz.func29 eo29 2000 [⟨Qaj 0 32,28,none⟩] [lc 1,.c (.sl 0 0 4 4)] (.r (lc 2))))
   (fun h1=>(Classical.em (u.im.num.sign>0)).elim (fun h2=>Qaw (L:=Qgp z w u v) Qae Qai
     (Qgf z w u v b_z b_w b_u nk)
     [gtY 3 (.sym 32) (li 0) z.im.num.sign 0 h0,gtN 3 (.sym 33) (li 0) w.im.num.sign 0 h1,gtY 3 (.sym 34) (li 0) u.im.num.sign 0 h2] [] Qci 1 3 Tryz.func29 eo29 2000 [⟨Qaj 0 32,28,none⟩] [lc 1,.c (.sl 0 0 4 4)] (.r (lc 2)))
   (fun h2=>Qaw (L:=Qgp z w u v) Qae Qai
     (Qgf z w u v b_z b_w b_u nk)
     [gtY 3 (.sym 32) (li 0) z.im.num.sign 0 h0,gtN 3 (.sym 33) (li 0) w.im.num.sign 0 h1,gtN 3 (.sym 34) (li 0) u.im.num.sign 0 h2] [] Qci 1 3 Tryz.func29 eo29 2000 [⟨Qaj 0 32,28,none⟩] [lc 1,.c (.sl 0 0 4 4)] (.r (lc 2)))))
   (fun h0=>(Classical.em (w.im.num.sign>0)).elim (fun h1=>(Classical.em (u.im.num.sign>0)).elim (fun h2=>Qaw (L:=Qgp z w u v) Qae Qai
     (Qgf z w u v b_z b_w b_u nk)
     [gtN 3 (.sym 32) (li 0) z.im.num.sign 0 h0,gtY 3 (.sym 33) (li 0) w.im.num.sign 0 h1,gtY 3 (.sym 34) (li 0) u.im.num.sign 0 h2] [] Qci 1 3 Tryz.func29 eo29 2000 [⟨Qaj 0 32,28,none⟩] [lc 1,.c (.sl 0 0 4 4)] (.r (lc 2)))
   (fun h2=>Qaw (L:=Qgp z w u v) Qae Qai
     (Qgf z w u v b_z b_w b_u nk)
     [gtN 3 (.sym 32) (li 0) z.im.num.sign 0 h0,gtY 3 (.sym 33) (li 0) w.im.num.sign 0 h1,gtN 3 (.sym 34) (li 0) u.im.num.sign 0 h2] [] Qci 1 3 Tryz.func29 eo29 2000 [⟨Qaj 0 32,28,none⟩] [lc 1,.c (.sl 0 0 4 4)] (.r (lc 2))))
   (fun h1=>(Classical.em (u.im.num.sign>0)).elim (fun h2=>Qaw (L:=Qgp z w u v) Qae Qai
     (Qgf z w u v b_z b_w b_u nk)
     [gtN 3 (.sym 32) (li 0) z.im.num.sign 0 h0,gtN 3 (.sym 33) (li 0) w.im.num.sign 0 h1,gtY 3 (.sym 34) (li 0) u.im.num.sign 0 h2] [] Qci 1 3 Tryz.func29 eo29 2000 [⟨Qaj 0 32,28,none⟩] [lc 1,.c (.sl 0 0 4 4)] (.r (lc 2)))
   (fun h2=>Qaw (L:=Qgp z w u v) Qae Qai
     (Qgf z w u v b_z b_w b_u nk)
     [gtN 3 (.sym 32) (li 0) z.im.num.sign 0 h0,gtN 3 (.sym 33) (li 0) w.im.num.sign 0 h1,gtN 3 (.sym 34) (li 0) u.im.num.sign 0 h2] [] Qci 1 3 Tryz.func29 eo29 2000 [⟨Qaj 0 32,28,none⟩] [lc 1,.c (.sl 0 0 4 4)] (.r (lc 2)))))
def Qfk(z w u v:QC):List GF:=[(Qad z).cells,(Qad w).cells,(Qad u).cells,(Qad v).cells,[gxi z.im.num.sign],[gxi w.im.num.sign],[gxi u.im.num.sign],[gxi v.im.num.sign]].flatten
noncomputable def Qfd(z w u v:QC)(b_z:Qab z)(b_w:Qab w)(b_u:Qab u)(b_v:Qab v):List (GC Tryz.prog (Qfk z w u v) true):=[gs (Qcj (Qad z) true (tI (Qav b_z))) [yR 0 8] vTt,gs (Qbo z.im) [yR 4 4] (rS 32),gs (Qcj (Qad w) true (tI (Qav b_w))) [yR 8 8] vTt,gs (Qbo w.im) [yR 12 4] (rS 33),gs (Qcj (Qad u) true (tI (Qav b_u))) [yR 16 8] vTt,gs (Qbo u.im) [yR 20 4] (rS 34),gs (Qcj (Qad v) true (tI (Qav b_v))) [yR 24 8] vTt,gs (Qbo v.im) [yR 28 4] (rS 35)]
theorem n4_1_o0(z w u v:QC)(b_z:Qab z)(b_w:Qab w)(b_u:Qab u)(b_v:Qab v)(hz:hO1 z):SMt 29 [((Qad z).cells++(Qad w).cells++(Qad u).cells++(Qad v).cells,28)] [.f (gIi 1),.sl 0 0 4 4] (.r (gIi 350)) :=
  (Classical.em (w.im.num.sign > 0)).elim (fun h0 => (Classical.em (u.im.num.sign > 0)).elim (fun h1 => (Classical.em (v.im.num.sign > 0)).elim (fun h2 => Qaw (L := Qfk z w u v) Qae Qai
     (Qfd z w u v b_z b_w b_u b_v)
     [gtN 3 (.sym 32) (li 0) z.im.num.sign 0 (sg_n hz),gtY 3 (.sym 33) (li 0) w.im.num.sign 0 h0,gtY 3 (.sym 34) (li 0) u.im.num.sign 0 h1,gtY 3 (.sym 35) (li 0) v.im.num.sign 0 h2] [] Qci 1 3 Tryz.func29 eo29 2000 [⟨Qaj 0 32,28,none⟩] [lc 1,.c (.sl 0 0 4 4)] (.r (lc 350)))
   (fun h2=>Qaw (L:=Qfk z w u v) Qae Qai
     (Qfd z w u v b_z b_w b_u b_v)
     [gtN 3 (.sym 32) (li 0) z.im.num.sign 0 (sg_n hz),gtY 3 (.sym 33) (li 0) w.im.num.sign 0 h0,gtY 3 (.sym 34) (li 0) u.im.num.sign 0 h1,gtN 3 (.sym 35) (li 0) v.im.num.sign 0 h2] [] Qci 1 3 Tryz.func29 eo29 2000 [⟨Qaj 0 32,28,none⟩] [lc 1,.c (.sl 0 0 4 4)] (.r (lc 350))))
   (fun h1=>(Classical.em (v.im.num.sign>0)).elim (fun h2=>Qaw (L:=Qfk z w u v) Qae Qai
     (Qfd z w u v b_z b_w b_u b_v)
     [gtN 3 (.sym 32) (li 0) z.im.num.sign 0 (sg_n hz),gtY 3 (.sym 33) (li 0) w.im.num.sign 0 h0,gtN 3 (.sym 34) (li 0) u.im.num.sign 0 h1,gtY 3 (.sym 35) (li 0) v.im.num.sign 0 h2] [] Qci 1 3 Tryz.func29 eo29 2000 [⟨Qaj 0 32,28,none⟩] [lc 1,.c (.sl 0 0 4 4)] (.r (lc 350)))
   (fun h2=>Qaw (L:=Qfk z w u v) Qae Qai
     (Qfd z w u v b_z b_w b_u b_v)
     [gtN 3 (.sym 32) (li 0) z.im.num.sign 0 (sg_n hz),gtY 3 (.sym 33) (li 0) w.im.num.sign 0 h0,gtN 3 (.sym 34) (li 0) u.im.num.sign 0 h1,gtN 3 (.sym 35) (li 0) v.im.num.sign 0 h2] [] Qci 1 3 Tryz.func29 eo29 2000 [⟨Qaj 0 32,28,none⟩] [lc 1,.c (.sl 0 0 4 4)] (.r (lc 350)))))
   (fun h0=>(Classical.em (u.im.num.sign>0)).elim (fun h1=>(Classical.em (v.im.num.sign>0)).elim (fun h2=>Qaw (L:=Qfk z w u v) Qae Qai
     (Qfd z w u v b_z b_w b_u b_v)
     [gtN 3 (.sym 32) (li 0) z.im.num.sign 0 (sg_n hz),gtN 3 (.sym 33) (li 0) w.im.num.sign 0 h0,gtY 3 (.sym 34) (li 0) u.im.num.sign 0 h1,gtY 3 (.sym 35) (li 0) v.im.num.sign 0 h2] [] Qci 1 3 Tryz.func29 eo29 2000 [⟨Qaj 0 32,28,none⟩] [lc 1,.c (.sl 0 0 4 4)] (.r (lc 350)))
   (fun h2=>Qaw (L:=Qfk z w u v) Qae Qai
     (Qfd z w u v b_z b_w b_u b_v)
     [gtN 3 (.sym 32) (li 0) z.im.num.sign 0 (sg_n hz),gtN 3 (.sym 33) (li 0) w.im.num.sign 0 h0,gtY 3 (.sym 34) (li 0) u.im.num.sign 0 h1,gtN 3 (.sym 35) (li 0) v.im.num.sign 0 h2] [] Qci 1 3 Tryz.func29 eo29 2000 [⟨Qaj 0 32,28,none⟩] [lc 1,.c (.sl 0 0 4 4)] (.r (lc 350))))
   (fun h1=>(Classical.em (v.im.num.sign>0)).elim (fun h2=>Qaw (L:=Qfk z w u v) Qae Qai
     (Qfd z w u v b_z b_w b_u b_v)
     [gtN 3 (.sym 32) (li 0) z.im.num.sign 0 (sg_n hz),gtN 3 (.sym 33) (li 0) w.im.num.sign 0 h0,gtN 3 (.sym 34) (li 0) u.im.num.sign 0 h1,gtY 3 (.sym 35) (li 0) v.im.num.sign 0 h2] [] Qci 1 3 Tryz.func29 eo29 2000 [⟨Qaj 0 32,28,none⟩] [lc 1,.c (.sl 0 0 4 4)] (.r (lc 350)))
   (fun h2=>Qaw (L:=Qfk z w u v) Qae Qai
     (Qfd z w u v b_z b_w b_u b_v)
     [gtN 3 (.sym 32) (li 0) z.im.num.sign 0 (sg_n hz),gtN 3 (.sym 33) (li 0) w.im.num.sign 0 h0,gtN 3 (.sym 34) (li 0) u.im.num.sign 0 h1,gtN 3 (.sym 35) (li 0) v.im.num.sign 0 h2] [] Qci 1 3 Tryz.func29 eo29 2000 [⟨Qaj 0 32,28,none⟩] [lc 1,.c (.sl 0 0 4 4)] (.r (lc 350)))))
def n4_1_o1_L(z w u v:QC):List GF:=[(Qad z).cells,(Qad w).cells,(Qad u).cells,(Qad v).cells,[gxi z.im.num.sign],[gxi w.im.num.sign],[gxi u.im.num.sign],[gxi v.im.num.sign]].flatten
noncomputable def n4_1_o1_T1(z w u v:QC)(b_z:Qab z)(b_w:Qab w)(b_u:Qab u)(b_v:Qab v):List (GC Tryz.prog (n4_1_o1_L z w u v) true):=[gs (Qcj (Qad z) true (tI (Qav b_z))) [yR 0 8] vTt,gs (Qbo z.im) [yR 4 4] (rS 32),gs (Qcj (Qad w) true (tI (Qav b_w))) [yR 8 8] vTt,gs (Qbo w.im) [yR 12 4] (rS 33),gs (Qcj (Qad u) true (tI (Qav b_u))) [yR 16 8] vTt,gs (Qbo u.im) [yR 20 4] (rS 34),gs (Qcj (Qad v) true (tI (Qav b_v))) [yR 24 8] vTt,gs (Qbo v.im) [yR 28 4] (rS 35)]
theorem n4_1_o1(z w u v:QC)(b_z:Qab z)(b_w:Qab w)(b_u:Qab u)(b_v:Qab v)(hz:hN1 z)(hw:hO1 w):SMt 29 [((Qad z).cells++(Qad w).cells++(Qad u).cells++(Qad v).cells,28)] [.f (gIi 1),.sl 0 0 4 4] (.r (gIi 350)) :=
  (Classical.em (u.im.num.sign > 0)).elim (fun h0 => (Classical.em (v.im.num.sign > 0)).elim (fun h1 => Qaw (L := n4_1_o1_L z w u v) Qae Qai
     (n4_1_o1_T1 z w u v b_z b_w b_u b_v)
     [gtY 3 (.sym 32) (li 0) z.im.num.sign 0 (sg_y hz),gtN 3 (.sym 33) (li 0) w.im.num.sign 0 (sg_n hw),gtY 3 (.sym 34) (li 0) u.im.num.sign 0 h0,gtY 3 (.sym 35) (li 0) v.im.num.sign 0 h1] [] Qci 1 3 Tryz.func29 eo29 2000 [⟨Qaj 0 32,28,none⟩] [lc 1,.c (.sl 0 0 4 4)] (.r (lc 350)))
   (fun h1=>Qaw (L:=n4_1_o1_L z w u v) Qae Qai
     (n4_1_o1_T1 z w u v b_z b_w b_u b_v)
     [gtY 3 (.sym 32) (li 0) z.im.num.sign 0 (sg_y hz),gtN 3 (.sym 33) (li 0) w.im.num.sign 0 (sg_n hw),gtY 3 (.sym 34) (li 0) u.im.num.sign 0 h0,gtN 3 (.sym 35) (li 0) v.im.num.sign 0 h1] [] Qci 1 3 Tryz.func29 eo29 2000 [⟨Qaj 0 32,28,none⟩] [lc 1,.c (.sl 0 0 4 4)] (.r (lc 350))))
   (fun h0=>(Classical.em (v.im.num.sign>0)).elim (fun h1=>Qaw (L:=n4_1_o1_L z w u v) Qae Qai
     (n4_1_o1_T1 z w u v b_z b_w b_u b_v)
     [gtY 3 (.sym 32) (li 0) z.im.num.sign 0 (sg_y hz),gtN 3 (.sym 33) (li 0) w.im.num.sign 0 (sg_n hw),gtN 3 (.sym 34) (li 0) u.im.num.sign 0 h0,gtY 3 (.sym 35) (li 0) v.im.num.sign 0 h1] [] Qci 1 3 Tryz.func29 eo29 2000 [⟨Qaj 0 32,28,none⟩] [lc 1,.c (.sl 0 0 4 4)] (.r (lc 350)))
   (fun h1=>Qaw (L:=n4_1_o1_L z w u v) Qae Qai
     (n4_1_o1_T1 z w u v b_z b_w b_u b_v)
     [gtY 3 (.sym 32) (li 0) z.im.num.sign 0 (sg_y hz),gtN 3 (.sym 33) (li 0) w.im.num.sign 0 (sg_n hw),gtN 3 (.sym 34) (li 0) u.im.num.sign 0 h0,gtN 3 (.sym 35) (li 0) v.im.num.sign 0 h1] [] Qci 1 3 Tryz.func29 eo29 2000 [⟨Qaj 0 32,28,none⟩] [lc 1,.c (.sl 0 0 4 4)] (.r (lc 350))))
def n4_1_o2_L(z w u v:QC):List GF:=[(Qad z).cells,(Qad w).cells,(Qad u).cells,(Qad v).cells,[gxi z.im.num.sign],[gxi w.im.num.sign],[gxi u.im.num.sign],[gxi v.im.num.sign]].flatten
noncomputable def n4_1_o2_T1(z w u v:QC)(b_z:Qab z)(b_w:Qab w)(b_u:Qab u)(b_v:Qab v):List (GC Tryz.prog (n4_1_o2_L z w u v) true):=[gs (Qcj (Qad z) true (tI (Qav b_z))) [yR 0 8] vTt,gs (Qbo z.im) [yR 4 4] (rS 32),gs (Qcj (Qad w) true (tI (Qav b_w))) [yR 8 8] vTt,gs (Qbo w.im) [yR 12 4] (rS 33),gs (Qcj (Qad u) true (tI (Qav b_u))) [yR 16 8] vTt,gs (Qbo u.im) [yR 20 4] (rS 34),gs (Qcj (Qad v) true (tI (Qav b_v))) [yR 24 8] vTt,gs (Qbo v.im) [yR 28 4] (rS 35)]
theorem n4_1_o2(z w u v:QC)(b_z:Qab z)(b_w:Qab w)(b_u:Qab u)(b_v:Qab v)(hz:hN1 z)(hw:hN1 w)(hu:hO1 u):SMt 29 [((Qad z).cells++(Qad w).cells++(Qad u).cells++(Qad v).cells,28)] [.f (gIi 1),.sl 0 0 4 4] (.r (gIi 350)) :=
  (Classical.em (v.im.num.sign > 0)).elim (fun h0 => Qaw (L := n4_1_o2_L z w u v) Qae Qai
     (n4_1_o2_T1 z w u v b_z b_w b_u b_v)
     [gtY 3 (.sym 32) (li 0) z.im.num.sign 0 (sg_y hz),gtY 3 (.sym 33) (li 0) w.im.num.sign 0 (sg_y hw),gtN 3 (.sym 34) (li 0) u.im.num.sign 0 (sg_n hu),gtY 3 (.sym 35) (li 0) v.im.num.sign 0 h0] [] Qci 1 3 Tryz.func29 eo29 2000 [⟨Qaj 0 32,28,none⟩] [lc 1,.c (.sl 0 0 4 4)] (.r (lc 350)))
   (fun h0=>Qaw (L:=n4_1_o2_L z w u v) Qae Qai
     (n4_1_o2_T1 z w u v b_z b_w b_u b_v)
     [gtY 3 (.sym 32) (li 0) z.im.num.sign 0 (sg_y hz),gtY 3 (.sym 33) (li 0) w.im.num.sign 0 (sg_y hw),gtN 3 (.sym 34) (li 0) u.im.num.sign 0 (sg_n hu),gtN 3 (.sym 35) (li 0) v.im.num.sign 0 h0] [] Qci 1 3 Tryz.func29 eo29 2000 [⟨Qaj 0 32,28,none⟩] [lc 1,.c (.sl 0 0 4 4)] (.r (lc 350)))
theorem n4_1_o3(z w u v:QC)(b_z:Qab z)(b_w:Qab w)(b_u:Qab u)(b_v:Qab v)(hz:hN1 z)(hw:hN1 w)(hu:hN1 u)(hv:hO1 v):SMt 29 [((Qad z).cells++(Qad w).cells++(Qad u).cells++(Qad v).cells,28)] [.f (gIi 1),.sl 0 0 4 4] (.r (gIi 350)) :=
  Qaw (L := [(Qad z).cells,(Qad w).cells,(Qad u).cells,(Qad v).cells,[gxi z.im.num.sign],[gxi w.im.num.sign],[gxi u.im.num.sign],[gxi v.im.num.sign]].flatten) Qae Qai
     [gs (Qcj (Qad z) true (tI (Qav b_z))) [yR 0 8] vTt,gs (Qbo z.im) [yR 4 4] (rS 32),gs (Qcj (Qad w) true (tI (Qav b_w))) [yR 8 8] vTt,gs (Qbo w.im) [yR 12 4] (rS 33),gs (Qcj (Qad u) true (tI (Qav b_u))) [yR 16 8] vTt,gs (Qbo u.im) [yR 20 4] (rS 34),gs (Qcj (Qad v) true (tI (Qav b_v))) [yR 24 8] vTt,gs (Qbo v.im) [yR 28 4] (rS 35)]
     [gtY 3 (.sym 32) (li 0) z.im.num.sign 0 (sg_y hz),gtY 3 (.sym 33) (li 0) w.im.num.sign 0 (sg_y hw),gtY 3 (.sym 34) (li 0) u.im.num.sign 0 (sg_y hu),gtN 3 (.sym 35) (li 0) v.im.num.sign 0 (sg_n hv)] [] Qci 1 3 Tryz.func29 eo29 2000 [⟨Qaj 0 32,28,none⟩] [lc 1,.c (.sl 0 0 4 4)] (.r (lc 350))
theorem n4_1_in(z w u v:QC)(b_z:Qab z)(b_w:Qab w)(b_u:Qab u)(b_v:Qab v)(hz:hN1 z)(hw:hN1 w)(hu:hN1 u)(hv:hN1 v):SMt 29 [((Qad z).cells++(Qad w).cells++(Qad u).cells++(Qad v).cells,28)] [.f (gIi 1),.sl 0 0 4 4] (.r (gIi 0)) :=
  Qaw (L := [(Qad z).cells,(Qad w).cells,(Qad u).cells,(Qad v).cells,[gxi z.im.num.sign],[gxi w.im.num.sign],[gxi u.im.num.sign],[gxi v.im.num.sign]].flatten) Qae Qai
     [gs (Qcj (Qad z) true (tI (Qav b_z))) [yR 0 8] vTt,gs (Qbo z.im) [yR 4 4] (rS 32),gs (Qcj (Qad w) true (tI (Qav b_w))) [yR 8 8] vTt,gs (Qbo w.im) [yR 12 4] (rS 33),gs (Qcj (Qad u) true (tI (Qav b_u))) [yR 16 8] vTt,gs (Qbo u.im) [yR 20 4] (rS 34),gs (Qcj (Qad v) true (tI (Qav b_v))) [yR 24 8] vTt,gs (Qbo v.im) [yR 28 4] (rS 35)]
     [gtY 3 (.sym 32) (li 0) z.im.num.sign 0 (sg_y hz),gtY 3 (.sym 33) (li 0) w.im.num.sign 0 (sg_y hw),gtY 3 (.sym 34) (li 0) u.im.num.sign 0 (sg_y hu),gtY 3 (.sym 35) (li 0) v.im.num.sign 0 (sg_y hv)] [] Qci 1 3 Tryz.func29 eo29 2000 [⟨Qaj 0 32,28,none⟩] [lc 1,.c (.sl 0 0 4 4)] (.r (lc 0))
end Go.Proofs.YtmimficdpfmfgaaGreat
