/- Laws for the walk. -/
import Derived.Test.YtmimficdpfmfgaaGreatVbu
set_option linter.unusedVariables false
set_option linter.unusedSimpArgs false
set_option maxHeartbeats 4000000
set_option maxRecDepth 100000
namespace Go.Proofs.YtmimficdpfmfgaaGreat
open Go.RowKit Tr
open Classical
theorem n4_2_0(z w u v:Qdc)(nk:¬(GOk z.val)):SMt 29 [(z.cells++w.cells++u.cells++v.cells,28)] [.f (gIi 2),.sl 0 0 4 4] (.r (gIi 2)) :=
  Qaw (L := [z.cells,w.cells,u.cells,v.cells].flatten) Qae Qai
     [gs (Qcj z false (fI nk)) [yR 0 8] vFf]
     [] [] Qci 1 3 Tryz.func29 eo29 2000 [⟨Qaj 0 32,28,none⟩] [lc 2,.c (.sl 0 0 4 4)] (.r (lc 2))
def n4_2_1_L(z:QC)(w u v:Qdc):List GF:=[(Qad z).cells,w.cells,u.cells,v.cells,cF (1:Rat),cF (nm z),cF ((1:Rat) - (nm z)),[gxi (((1:Rat) - (nm z)).num.sign)]].flatten
noncomputable def n4_2_1_T1(z:QC)(w u v:Qdc)(b_z:Qab z)(nk:¬(GOk w.val)):List (GC Tryz.prog (n4_2_1_L z w u v) true):=[gs (Qcj (Qad z) true (tI (Qav b_z))) [yR 0 8] vTt,gs (Qgs 1 (by decide) (by decide)) [lc 1] (rQ 32),gs (Qfp z ((Qaa b_z).mn)) [yR 0 8] (rQ 35),gs (Qbs (1:Rat) (nm z) (ri 1) ((Qbz (Qaa b_z)).mn)) [yQ 32,yQ 35] (rQ 38),gs (Qbo ((1:Rat) - (nm z))) [yQ 38] (rS 41),gs (Qcj w false (fI nk)) [yR 8 8] vFf]
theorem n4_2_1(z:QC)(w u v:Qdc)(b_z:Qab z)(nk:¬(GOk w.val)):SMt 29 [((Qad z).cells++w.cells++u.cells++v.cells,28)] [.f (gIi 2),.sl 0 0 4 4] (.r (gIi 2)) :=
  (Classical.em ((((1 : Rat) - (nm z)).num.sign) > 0)).elim (fun h0 => Qaw (L := n4_2_1_L z w u v) Qae Qai
     (n4_2_1_T1 z w u v b_z nk)
     [gtY 3 (.sym 41) (li 0) (((1:Rat) - (nm z)).num.sign) 0 h0] [] Qci 1 3 Tryz.func29 eo29 2000 [⟨Qaj 0 32,28,none⟩] [lc 2,.c (.sl 0 0 4 4)] (.r (lc 2)))
   (fun h0=>Qaw (L:=n4_2_1_L z w u v) Qae Qai
     (n4_2_1_T1 z w u v b_z nk)
     [gtN 3 (.sym 41) (li 0) (((1:Rat) - (nm z)).num.sign) 0 h0] [] Qci 1 3 Tryz.func29 eo29 2000 [⟨Qaj 0 32,28,none⟩] [lc 2,.c (.sl 0 0 4 4)] (.r (lc 2)))
def n4_2_2_L(z w:QC)(u v:Qdc):List GF:=[(Qad z).cells,(Qad w).cells,u.cells,v.cells,cF (1:Rat),cF (nm z),cF ((1:Rat) - (nm z)),[gxi (((1:Rat) - (nm z)).num.sign)],cF (nm w),cF ((1:Rat) - (nm w)),[gxi (((1:Rat) - (nm w)).num.sign)]].flatten
noncomputable def n4_2_2_T1(z w:QC)(u v:Qdc)(b_z:Qab z)(b_w:Qab w)(nk:¬(GOk u.val)):List (GC Tryz.prog (n4_2_2_L z w u v) true):=[gs (Qcj (Qad z) true (tI (Qav b_z))) [yR 0 8] vTt,gs (Qgs 1 (by decide) (by decide)) [lc 1] (rQ 32),gs (Qfp z ((Qaa b_z).mn)) [yR 0 8] (rQ 35),gs (Qbs (1:Rat) (nm z) (ri 1) ((Qbz (Qaa b_z)).mn)) [yQ 32,yQ 35] (rQ 38),gs (Qbo ((1:Rat) - (nm z))) [yQ 38] (rS 41),gs (Qcj (Qad w) true (tI (Qav b_w))) [yR 8 8] vTt,gs (Qfp w ((Qaa b_w).mn)) [yR 8 8] (rQ 42),gs (Qbs (1:Rat) (nm w) (ri 1) ((Qbz (Qaa b_w)).mn)) [yQ 32,yQ 42] (rQ 45),gs (Qbo ((1:Rat) - (nm w))) [yQ 45] (rS 48),gs (Qcj u false (fI nk)) [yR 16 8] vFf]
theorem n4_2_2(z w:QC)(u v:Qdc)(b_z:Qab z)(b_w:Qab w)(nk:¬(GOk u.val)):SMt 29 [((Qad z).cells++(Qad w).cells++u.cells++v.cells,28)] [.f (gIi 2),.sl 0 0 4 4] (.r (gIi 2)) :=
  (Classical.em ((((1 : Rat) - (nm z)).num.sign) > 0)).elim (fun h0 => (Classical.em ((((1 : Rat) - (nm w)).num.sign) > 0)).elim (fun h1 => Qaw (L := n4_2_2_L z w u v) Qae Qai
     (n4_2_2_T1 z w u v b_z b_w nk)
     [gtY 3 (.sym 41) (li 0) (((1:Rat) - (nm z)).num.sign) 0 h0,gtY 3 (.sym 48) (li 0) (((1:Rat) - (nm w)).num.sign) 0 h1] [] Qci 1 3 Tryz.func29 eo29 2000 [⟨Qaj 0 32,28,none⟩] [lc 2,.c (.sl 0 0 4 4)] (.r (lc 2)))
   (fun h1=>Qaw (L:=n4_2_2_L z w u v) Qae Qai
     (n4_2_2_T1 z w u v b_z b_w nk)
     [gtY 3 (.sym 41) (li 0) (((1:Rat) - (nm z)).num.sign) 0 h0,gtN 3 (.sym 48) (li 0) (((1:Rat) - (nm w)).num.sign) 0 h1] [] Qci 1 3 Tryz.func29 eo29 2000 [⟨Qaj 0 32,28,none⟩] [lc 2,.c (.sl 0 0 4 4)] (.r (lc 2))))
   (fun h0=>(Classical.em ((((1:Rat) - (nm w)).num.sign)>0)).elim (fun h1=>Qaw (L:=n4_2_2_L z w u v) Qae Qai
     (n4_2_2_T1 z w u v b_z b_w nk)
     [gtN 3 (.sym 41) (li 0) (((1:Rat) - (nm z)).num.sign) 0 h0,gtY 3 (.sym 48) (li 0) (((1:Rat) - (nm w)).num.sign) 0 h1] [] Qci 1 3 Tryz.func29 eo29 2000 [⟨Qaj 0 32,28,none⟩] [lc 2,.c (.sl 0 0 4 4)] (.r (lc 2)))
   (fun h1=>Qaw (L:=n4_2_2_L z w u v) Qae Qai
     (n4_2_2_T1 z w u v b_z b_w nk)
     [gtN 3 (.sym 41) (li 0) (((1:Rat) - (nm z)).num.sign) 0 h0,gtN 3 (.sym 48) (li 0) (((1:Rat) - (nm w)).num.sign) 0 h1] [] Qci 1 3 Tryz.func29 eo29 2000 [⟨Qaj 0 32,28,none⟩] [lc 2,.c (.sl 0 0 4 4)] (.r (lc 2))))
def Qgq(z w u:QC)(v:Qdc):List GF:=[(Qad z).cells,(Qad w).cells,(Qad u).cells,v.cells,cF (1:Rat),cF (nm z),cF ((1:Rat) - (nm z)),[gxi (((1:Rat) - (nm z)).num.sign)],cF (nm w),cF ((1:Rat) - (nm w)),[gxi (((1:Rat) - (nm w)).num.sign)],cF (nm u),cF ((1:Rat) - (nm u)),[gxi (((1:Rat) - (nm u)).num.sign)]].flatten
noncomputable def Qgg(z w u:QC)(v:Qdc)(b_z:Qab z)(b_w:Qab w)(b_u:Qab u)(nk:¬(GOk v.val)):List (GC Tryz.prog (Qgq z w u v) true):=[gs (Qcj (Qad z) true (tI (Qav b_z))) [yR 0 8] vTt,gs (Qgs 1 (by decide) (by decide)) [lc 1] (rQ 32),gs (Qfp z ((Qaa b_z).mn)) [yR 0 8] (rQ 35),gs (Qbs (1:Rat) (nm z) (ri 1) ((Qbz (Qaa b_z)).mn)) [yQ 32,yQ 35] (rQ 38),gs (Qbo ((1:Rat) - (nm z))) [yQ 38] (rS 41),gs (Qcj (Qad w) true (tI (Qav b_w))) [yR 8 8] vTt,gs (Qfp w ((Qaa b_w).mn)) [yR 8 8] (rQ 42),gs (Qbs (1:Rat) (nm w) (ri 1) ((Qbz (Qaa b_w)).mn)) [yQ 32,yQ 42] (rQ 45),gs (Qbo ((1:Rat) - (nm w))) [yQ 45] (rS 48),gs (Qcj (Qad u) true (tI (Qav b_u))) [yR 16 8] vTt,gs (Qfp u ((Qaa b_u).mn)) [yR 16 8] (rQ 49),gs (Qbs (1:Rat) (nm u) (ri 1) ((Qbz (Qaa b_u)).mn)) [yQ 32,yQ 49] (rQ 52),gs (Qbo ((1:Rat) - (nm u))) [yQ 52] (rS 55),gs (Qcj v false (fI nk)) [yR 24 8] vFf]
theorem n4_2_3(z w u:QC)(v:Qdc)(b_z:Qab z)(b_w:Qab w)(b_u:Qab u)(nk:¬(GOk v.val)):SMt 29 [((Qad z).cells++(Qad w).cells++(Qad u).cells++v.cells,28)] [.f (gIi 2),.sl 0 0 4 4] (.r (gIi 2)) :=
  (Classical.em ((((1 : Rat) - (nm z)).num.sign) > 0)).elim (fun h0 => (Classical.em ((((1 : Rat) - (nm w)).num.sign) > 0)).elim (fun h1 => (Classical.em ((((1 : Rat) - (nm u)).num.sign) > 0)).elim (fun h2 => Qaw (L := Qgq z w u v) Qae Qai
     (Qgg z w u v b_z b_w b_u nk)
     [gtY 3 (.sym 41) (li 0) (((1:Rat) - (nm z)).num.sign) 0 h0,gtY 3 (.sym 48) (li 0) (((1:Rat) - (nm w)).num.sign) 0 h1,gtY 3 (.sym 55) (li 0) (((1:Rat) - (nm u)).num.sign) 0 h2] [] Qci 1 3 Tryz.func29 eo29 2000 [⟨Qaj 0 32,28,none⟩] [lc 2,.c (.sl 0 0 4 4)] (.r (lc 2)))
   (fun h2=>Qaw (L:=Qgq z w u v) Qae Qai
     (Qgg z w u v b_z b_w b_u nk)
     [gtY 3 (.sym 41) (li 0) (((1:Rat) - (nm z)).num.sign) 0 h0,gtY 3 (.sym 48) (li 0) (((1:Rat) - (nm w)).num.sign) 0 h1,gtN 3 (.sym 55) (li 0) (((1:Rat) - (nm u)).num.sign) 0 h2] [] Qci 1 3 Tryz.func29 eo29 2000 [⟨Qaj 0 32,28,none⟩] [lc 2,.c (.sl 0 0 4 4)] (.r (lc 2))))
   (fun h1=>(Classical.em ((((1:Rat) - (nm u)).num.sign)>0)).elim (fun h2=>Qaw (L:=Qgq z w u v) Qae Qai
     (Qgg z w u v b_z b_w b_u nk)
     [gtY 3 (.sym 41) (li 0) (((1:Rat) - (nm z)).num.sign) 0 h0,gtN 3 (.sym 48) (li 0) (((1:Rat) - (nm w)).num.sign) 0 h1,gtY 3 (.sym 55) (li 0) (((1:Rat) - (nm u)).num.sign) 0 h2] [] Qci 1 3 Tryz.func29 eo29 2000 [⟨Qaj 0 32,28,none⟩] [lc 2,.c (.sl 0 0 4 4)] (.r (lc 2)))
   (fun h2=>Qaw (L:=Qgq z w u v) Qae Qai
     (Qgg z w u v b_z b_w b_u nk)
     [gtY 3 (.sym 41) (li 0) (((1:Rat) - (nm z)).num.sign) 0 h0,gtN 3 (.sym 48) (li 0) (((1:Rat) - (nm w)).num.sign) 0 h1,gtN 3 (.sym 55) (li 0) (((1:Rat) - (nm u)).num.sign) 0 h2] [] Qci 1 3 Tryz.func29 eo29 2000 [⟨Qaj 0 32,28,none⟩] [lc 2,.c (.sl 0 0 4 4)] (.r (lc 2)))))
   (fun h0=>(Classical.em ((((1:Rat) - (nm w)).num.sign)>0)).elim (fun h1=>(Classical.em ((((1:Rat) - (nm u)).num.sign)>0)).elim (fun h2=>Qaw (L:=Qgq z w u v) Qae Qai
     (Qgg z w u v b_z b_w b_u nk)
     [gtN 3 (.sym 41) (li 0) (((1:Rat) - (nm z)).num.sign) 0 h0,gtY 3 (.sym 48) (li 0) (((1:Rat) - (nm w)).num.sign) 0 h1,gtY 3 (.sym 55) (li 0) (((1:Rat) - (nm u)).num.sign) 0 h2] [] Qci 1 3 Tryz.func29 eo29 2000 [⟨Qaj 0 32,28,none⟩] [lc 2,.c (.sl 0 0 4 4)] (.r (lc 2)))
   (fun h2=>Qaw (L:=Qgq z w u v) Qae Qai
     (Qgg z w u v b_z b_w b_u nk)
     [gtN 3 (.sym 41) (li 0) (((1:Rat) - (nm z)).num.sign) 0 h0,gtY 3 (.sym 48) (li 0) (((1:Rat) - (nm w)).num.sign) 0 h1,gtN 3 (.sym 55) (li 0) (((1:Rat) - (nm u)).num.sign) 0 h2] [] Qci 1 3 Tryz.func29 eo29 2000 [⟨Qaj 0 32,28,none⟩] [lc 2,.c (.sl 0 0 4 4)] (.r (lc 2))))
   (fun h1=>(Classical.em ((((1:Rat) - (nm u)).num.sign)>0)).elim (fun h2=>Qaw (L:=Qgq z w u v) Qae Qai
     (Qgg z w u v b_z b_w b_u nk)
     [gtN 3 (.sym 41) (li 0) (((1:Rat) - (nm z)).num.sign) 0 h0,gtN 3 (.sym 48) (li 0) (((1:Rat) - (nm w)).num.sign) 0 h1,gtY 3 (.sym 55) (li 0) (((1:Rat) - (nm u)).num.sign) 0 h2] [] Qci 1 3 Tryz.func29 eo29 2000 [⟨Qaj 0 32,28,none⟩] [lc 2,.c (.sl 0 0 4 4)] (.r (lc 2)))
   (fun h2=>Qaw (L:=Qgq z w u v) Qae Qai
     (Qgg z w u v b_z b_w b_u nk)
     [gtN 3 (.sym 41) (li 0) (((1:Rat) - (nm z)).num.sign) 0 h0,gtN 3 (.sym 48) (li 0) (((1:Rat) - (nm w)).num.sign) 0 h1,gtN 3 (.sym 55) (li 0) (((1:Rat) - (nm u)).num.sign) 0 h2] [] Qci 1 3 Tryz.func29 eo29 2000 [⟨Qaj 0 32,28,none⟩] [lc 2,.c (.sl 0 0 4 4)] (.r (lc 2)))))
def Qfl(z w u v:QC):List GF:=[(Qad z).cells,(Qad w).cells,(Qad u).cells,(Qad v).cells,cF (1:Rat),cF (nm z),cF ((1:Rat) - (nm z)),[gxi (((1:Rat) - (nm z)).num.sign)],cF (nm w),cF ((1:Rat) - (nm w)),[gxi (((1:Rat) - (nm w)).num.sign)],cF (nm u),cF ((1:Rat) - (nm u)),[gxi (((1:Rat) - (nm u)).num.sign)],cF (nm v),cF ((1:Rat) - (nm v)),[gxi (((1:Rat) - (nm v)).num.sign)]].flatten
noncomputable def Qfe(z w u v:QC)(b_z:Qab z)(b_w:Qab w)(b_u:Qab u)(b_v:Qab v):List (GC Tryz.prog (Qfl z w u v) true):=[gs (Qcj (Qad z) true (tI (Qav b_z))) [yR 0 8] vTt,gs (Qgs 1 (by decide) (by decide)) [lc 1] (rQ 32),gs (Qfp z ((Qaa b_z).mn)) [yR 0 8] (rQ 35),gs (Qbs (1:Rat) (nm z) (ri 1) ((Qbz (Qaa b_z)).mn)) [yQ 32,yQ 35] (rQ 38),gs (Qbo ((1:Rat) - (nm z))) [yQ 38] (rS 41),gs (Qcj (Qad w) true (tI (Qav b_w))) [yR 8 8] vTt,gs (Qfp w ((Qaa b_w).mn)) [yR 8 8] (rQ 42),gs (Qbs (1:Rat) (nm w) (ri 1) ((Qbz (Qaa b_w)).mn)) [yQ 32,yQ 42] (rQ 45),gs (Qbo ((1:Rat) - (nm w))) [yQ 45] (rS 48),gs (Qcj (Qad u) true (tI (Qav b_u))) [yR 16 8] vTt,gs (Qfp u ((Qaa b_u).mn)) [yR 16 8] (rQ 49),gs (Qbs (1:Rat) (nm u) (ri 1) ((Qbz (Qaa b_u)).mn)) [yQ 32,yQ 49] (rQ 52),gs (Qbo ((1:Rat) - (nm u))) [yQ 52] (rS 55),gs (Qcj (Qad v) true (tI (Qav b_v))) [yR 24 8] vTt,gs (Qfp v ((Qaa b_v).mn)) [yR 24 8] (rQ 56),gs (Qbs (1:Rat) (nm v) (ri 1) ((Qbz (Qaa b_v)).mn)) [yQ 32,yQ 56] (rQ 59),gs (Qbo ((1:Rat) - (nm v))) [yQ 59] (rS 62)]
theorem n4_2_o0(z w u v:QC)(b_z:Qab z)(b_w:Qab w)(b_u:Qab u)(b_v:Qab v)(hz:hO2 z):SMt 29 [((Qad z).cells++(Qad w).cells++(Qad u).cells++(Qad v).cells,28)] [.f (gIi 2),.sl 0 0 4 4] (.r (gIi 350)) :=
  (Classical.em ((((1 : Rat) - (nm w)).num.sign) > 0)).elim (fun h0 => (Classical.em ((((1 : Rat) - (nm u)).num.sign) > 0)).elim (fun h1 => (Classical.em ((((1 : Rat) - (nm v)).num.sign) > 0)).elim (fun h2 => Qaw (L := Qfl z w u v) Qae Qai
     (Qfe z w u v b_z b_w b_u b_v)
     [gtN 3 (.sym 41) (li 0) (((1:Rat) - (nm z)).num.sign) 0 (sg_n hz),gtY 3 (.sym 48) (li 0) (((1:Rat) - (nm w)).num.sign) 0 h0,gtY 3 (.sym 55) (li 0) (((1:Rat) - (nm u)).num.sign) 0 h1,gtY 3 (.sym 62) (li 0) (((1:Rat) - (nm v)).num.sign) 0 h2] [] Qci 1 3 Tryz.func29 eo29 2000 [⟨Qaj 0 32,28,none⟩] [lc 2,.c (.sl 0 0 4 4)] (.r (lc 350)))
   (fun h2=>Qaw (L:=Qfl z w u v) Qae Qai
     (Qfe z w u v b_z b_w b_u b_v)
     [gtN 3 (.sym 41) (li 0) (((1:Rat) - (nm z)).num.sign) 0 (sg_n hz),gtY 3 (.sym 48) (li 0) (((1:Rat) - (nm w)).num.sign) 0 h0,gtY 3 (.sym 55) (li 0) (((1:Rat) - (nm u)).num.sign) 0 h1,gtN 3 (.sym 62) (li 0) (((1:Rat) - (nm v)).num.sign) 0 h2] [] Qci 1 3 Tryz.func29 eo29 2000 [⟨Qaj 0 32,28,none⟩] [lc 2,.c (.sl 0 0 4 4)] (.r (lc 350))))
   (fun h1=>(Classical.em ((((1:Rat) - (nm v)).num.sign)>0)).elim (fun h2=>Qaw (L:=Qfl z w u v) Qae Qai
     (Qfe z w u v b_z b_w b_u b_v)
     [gtN 3 (.sym 41) (li 0) (((1:Rat) - (nm z)).num.sign) 0 (sg_n hz),gtY 3 (.sym 48) (li 0) (((1:Rat) - (nm w)).num.sign) 0 h0,gtN 3 (.sym 55) (li 0) (((1:Rat) - (nm u)).num.sign) 0 h1,gtY 3 (.sym 62) (li 0) (((1:Rat) - (nm v)).num.sign) 0 h2] [] Qci 1 3 Tryz.func29 eo29 2000 [⟨Qaj 0 32,28,none⟩] [lc 2,.c (.sl 0 0 4 4)] (.r (lc 350)))
   (fun h2=>Qaw (L:=Qfl z w u v) Qae Qai
     (Qfe z w u v b_z b_w b_u b_v)
     [gtN 3 (.sym 41) (li 0) (((1:Rat) - (nm z)).num.sign) 0 (sg_n hz),gtY 3 (.sym 48) (li 0) (((1:Rat) - (nm w)).num.sign) 0 h0,gtN 3 (.sym 55) (li 0) (((1:Rat) - (nm u)).num.sign) 0 h1,gtN 3 (.sym 62) (li 0) (((1:Rat) - (nm v)).num.sign) 0 h2] [] Qci 1 3 Tryz.func29 eo29 2000 [⟨Qaj 0 32,28,none⟩] [lc 2,.c (.sl 0 0 4 4)] (.r (lc 350)))))
   (fun h0=>(Classical.em ((((1:Rat) - (nm u)).num.sign)>0)).elim (fun h1=>(Classical.em ((((1:Rat) - (nm v)).num.sign)>0)).elim (fun h2=>Qaw (L:=Qfl z w u v) Qae Qai
     (Qfe z w u v b_z b_w b_u b_v)
     [gtN 3 (.sym 41) (li 0) (((1:Rat) - (nm z)).num.sign) 0 (sg_n hz),gtN 3 (.sym 48) (li 0) (((1:Rat) - (nm w)).num.sign) 0 h0,gtY 3 (.sym 55) (li 0) (((1:Rat) - (nm u)).num.sign) 0 h1,gtY 3 (.sym 62) (li 0) (((1:Rat) - (nm v)).num.sign) 0 h2] [] Qci 1 3 Tryz.func29 eo29 2000 [⟨Qaj 0 32,28,none⟩] [lc 2,.c (.sl 0 0 4 4)] (.r (lc 350)))
   (fun h2=>Qaw (L:=Qfl z w u v) Qae Qai
     (Qfe z w u v b_z b_w b_u b_v)
     [gtN 3 (.sym 41) (li 0) (((1:Rat) - (nm z)).num.sign) 0 (sg_n hz),gtN 3 (.sym 48) (li 0) (((1:Rat) - (nm w)).num.sign) 0 h0,gtY 3 (.sym 55) (li 0) (((1:Rat) - (nm u)).num.sign) 0 h1,gtN 3 (.sym 62) (li 0) (((1:Rat) - (nm v)).num.sign) 0 h2] [] Qci 1 3 Tryz.func29 eo29 2000 [⟨Qaj 0 32,28,none⟩] [lc 2,.c (.sl 0 0 4 4)] (.r (lc 350))))
   (fun h1=>(Classical.em ((((1:Rat) - (nm v)).num.sign)>0)).elim (fun h2=>Qaw (L:=Qfl z w u v) Qae Qai
     (Qfe z w u v b_z b_w b_u b_v)
     [gtN 3 (.sym 41) (li 0) (((1:Rat) - (nm z)).num.sign) 0 (sg_n hz),gtN 3 (.sym 48) (li 0) (((1:Rat) - (nm w)).num.sign) 0 h0,gtN 3 (.sym 55) (li 0) (((1:Rat) - (nm u)).num.sign) 0 h1,gtY 3 (.sym 62) (li 0) (((1:Rat) - (nm v)).num.sign) 0 h2] [] Qci 1 3 Tryz.func29 eo29 2000 [⟨Qaj 0 32,28,none⟩] [lc 2,.c (.sl 0 0 4 4)] (.r (lc 350)))
   (fun h2=>Qaw (L:=Qfl z w u v) Qae Qai
     (Qfe z w u v b_z b_w b_u b_v)
     [gtN 3 (.sym 41) (li 0) (((1:Rat) - (nm z)).num.sign) 0 (sg_n hz),gtN 3 (.sym 48) (li 0) (((1:Rat) - (nm w)).num.sign) 0 h0,gtN 3 (.sym 55) (li 0) (((1:Rat) - (nm u)).num.sign) 0 h1,gtN 3 (.sym 62) (li 0) (((1:Rat) - (nm v)).num.sign) 0 h2] [] Qci 1 3 Tryz.func29 eo29 2000 [⟨Qaj 0 32,28,none⟩] [lc 2,.c (.sl 0 0 4 4)] (.r (lc 350)))))
def n4_2_o1_L(z w u v:QC):List GF:=[(Qad z).cells,(Qad w).cells,(Qad u).cells,(Qad v).cells,cF (1:Rat),cF (nm z),cF ((1:Rat) - (nm z)),[gxi (((1:Rat) - (nm z)).num.sign)],cF (nm w),cF ((1:Rat) - (nm w)),[gxi (((1:Rat) - (nm w)).num.sign)],cF (nm u),cF ((1:Rat) - (nm u)),[gxi (((1:Rat) - (nm u)).num.sign)],cF (nm v),cF ((1:Rat) - (nm v)),[gxi (((1:Rat) - (nm v)).num.sign)]].flatten
noncomputable def n4_2_o1_T1(z w u v:QC)(b_z:Qab z)(b_w:Qab w)(b_u:Qab u)(b_v:Qab v):List (GC Tryz.prog (n4_2_o1_L z w u v) true):=[gs (Qcj (Qad z) true (tI (Qav b_z))) [yR 0 8] vTt,gs (Qgs 1 (by decide) (by decide)) [lc 1] (rQ 32),gs (Qfp z ((Qaa b_z).mn)) [yR 0 8] (rQ 35),gs (Qbs (1:Rat) (nm z) (ri 1) ((Qbz (Qaa b_z)).mn)) [yQ 32,yQ 35] (rQ 38),gs (Qbo ((1:Rat) - (nm z))) [yQ 38] (rS 41),gs (Qcj (Qad w) true (tI (Qav b_w))) [yR 8 8] vTt,gs (Qfp w ((Qaa b_w).mn)) [yR 8 8] (rQ 42),gs (Qbs (1:Rat) (nm w) (ri 1) ((Qbz (Qaa b_w)).mn)) [yQ 32,yQ 42] (rQ 45),gs (Qbo ((1:Rat) - (nm w))) [yQ 45] (rS 48),gs (Qcj (Qad u) true (tI (Qav b_u))) [yR 16 8] vTt,gs (Qfp u ((Qaa b_u).mn)) [yR 16 8] (rQ 49),gs (Qbs (1:Rat) (nm u) (ri 1) ((Qbz (Qaa b_u)).mn)) [yQ 32,yQ 49] (rQ 52),gs (Qbo ((1:Rat) - (nm u))) [yQ 52] (rS 55),gs (Qcj (Qad v) true (tI (Qav b_v))) [yR 24 8] vTt,gs (Qfp v ((Qaa b_v).mn)) [yR 24 8] (rQ 56),gs (Qbs (1:Rat) (nm v) (ri 1) ((Qbz (Qaa b_v)).mn)) [yQ 32,yQ 56] (rQ 59),gs (Qbo ((1:Rat) - (nm v))) [yQ 59] (rS 62)]
theorem n4_2_o1(z w u v:QC)(b_z:Qab z)(b_w:Qab w)(b_u:Qab u)(b_v:Qab v)(hz:hN2 z)(hw:hO2 w):SMt 29 [((Qad z).cells++(Qad w).cells++(Qad u).cells++(Qad v).cells,28)] [.f (gIi 2),.sl 0 0 4 4] (.r (gIi 350)) :=
  (Classical.em ((((1 : Rat) - (nm u)).num.sign) > 0)).elim (fun h0 => (Classical.em ((((1 : Rat) - (nm v)).num.sign) > 0)).elim (fun h1 => Qaw (L := n4_2_o1_L z w u v) Qae Qai
     (n4_2_o1_T1 z w u v b_z b_w b_u b_v)
     [gtY 3 (.sym 41) (li 0) (((1:Rat) - (nm z)).num.sign) 0 (sg_y hz),gtN 3 (.sym 48) (li 0) (((1:Rat) - (nm w)).num.sign) 0 (sg_n hw),gtY 3 (.sym 55) (li 0) (((1:Rat) - (nm u)).num.sign) 0 h0,gtY 3 (.sym 62) (li 0) (((1:Rat) - (nm v)).num.sign) 0 h1] [] Qci 1 3 Tryz.func29 eo29 2000 [⟨Qaj 0 32,28,none⟩] [lc 2,.c (.sl 0 0 4 4)] (.r (lc 350)))
   (fun h1=>Qaw (L:=n4_2_o1_L z w u v) Qae Qai
     (n4_2_o1_T1 z w u v b_z b_w b_u b_v)
     [gtY 3 (.sym 41) (li 0) (((1:Rat) - (nm z)).num.sign) 0 (sg_y hz),gtN 3 (.sym 48) (li 0) (((1:Rat) - (nm w)).num.sign) 0 (sg_n hw),gtY 3 (.sym 55) (li 0) (((1:Rat) - (nm u)).num.sign) 0 h0,gtN 3 (.sym 62) (li 0) (((1:Rat) - (nm v)).num.sign) 0 h1] [] Qci 1 3 Tryz.func29 eo29 2000 [⟨Qaj 0 32,28,none⟩] [lc 2,.c (.sl 0 0 4 4)] (.r (lc 350))))
   (fun h0=>(Classical.em ((((1:Rat) - (nm v)).num.sign)>0)).elim (fun h1=>Qaw (L:=n4_2_o1_L z w u v) Qae Qai
     (n4_2_o1_T1 z w u v b_z b_w b_u b_v)
     [gtY 3 (.sym 41) (li 0) (((1:Rat) - (nm z)).num.sign) 0 (sg_y hz),gtN 3 (.sym 48) (li 0) (((1:Rat) - (nm w)).num.sign) 0 (sg_n hw),gtN 3 (.sym 55) (li 0) (((1:Rat) - (nm u)).num.sign) 0 h0,gtY 3 (.sym 62) (li 0) (((1:Rat) - (nm v)).num.sign) 0 h1] [] Qci 1 3 Tryz.func29 eo29 2000 [⟨Qaj 0 32,28,none⟩] [lc 2,.c (.sl 0 0 4 4)] (.r (lc 350)))
   (fun h1=>Qaw (L:=n4_2_o1_L z w u v) Qae Qai
     (n4_2_o1_T1 z w u v b_z b_w b_u b_v)
     [gtY 3 (.sym 41) (li 0) (((1:Rat) - (nm z)).num.sign) 0 (sg_y hz),gtN 3 (.sym 48) (li 0) (((1:Rat) - (nm w)).num.sign) 0 (sg_n hw),gtN 3 (.sym 55) (li 0) (((1:Rat) - (nm u)).num.sign) 0 h0,gtN 3 (.sym 62) (li 0) (((1:Rat) - (nm v)).num.sign) 0 h1] [] Qci 1 3 Tryz.func29 eo29 2000 [⟨Qaj 0 32,28,none⟩] [lc 2,.c (.sl 0 0 4 4)] (.r (lc 350))))
def n4_2_o2_L(z w u v:QC):List GF:=[(Qad z).cells,(Qad w).cells,(Qad u).cells,(Qad v).cells,cF (1:Rat),cF (nm z),cF ((1:Rat) - (nm z)),[gxi (((1:Rat) - (nm z)).num.sign)],cF (nm w),cF ((1:Rat) - (nm w)),[gxi (((1:Rat) - (nm w)).num.sign)],cF (nm u),cF ((1:Rat) - (nm u)),[gxi (((1:Rat) - (nm u)).num.sign)],cF (nm v),cF ((1:Rat) - (nm v)),[gxi (((1:Rat) - (nm v)).num.sign)]].flatten
noncomputable def n4_2_o2_T1(z w u v:QC)(b_z:Qab z)(b_w:Qab w)(b_u:Qab u)(b_v:Qab v):List (GC Tryz.prog (n4_2_o2_L z w u v) true):=[gs (Qcj (Qad z) true (tI (Qav b_z))) [yR 0 8] vTt,gs (Qgs 1 (by decide) (by decide)) [lc 1] (rQ 32),gs (Qfp z ((Qaa b_z).mn)) [yR 0 8] (rQ 35),gs (Qbs (1:Rat) (nm z) (ri 1) ((Qbz (Qaa b_z)).mn)) [yQ 32,yQ 35] (rQ 38),gs (Qbo ((1:Rat) - (nm z))) [yQ 38] (rS 41),gs (Qcj (Qad w) true (tI (Qav b_w))) [yR 8 8] vTt,gs (Qfp w ((Qaa b_w).mn)) [yR 8 8] (rQ 42),gs (Qbs (1:Rat) (nm w) (ri 1) ((Qbz (Qaa b_w)).mn)) [yQ 32,yQ 42] (rQ 45),gs (Qbo ((1:Rat) - (nm w))) [yQ 45] (rS 48),gs (Qcj (Qad u) true (tI (Qav b_u))) [yR 16 8] vTt,gs (Qfp u ((Qaa b_u).mn)) [yR 16 8] (rQ 49),gs (Qbs (1:Rat) (nm u) (ri 1) ((Qbz (Qaa b_u)).mn)) [yQ 32,yQ 49] (rQ 52),gs (Qbo ((1:Rat) - (nm u))) [yQ 52] (rS 55),gs (Qcj (Qad v) true (tI (Qav b_v))) [yR 24 8] vTt,gs (Qfp v ((Qaa b_v).mn)) [yR 24 8] (rQ 56),gs (Qbs (1:Rat) (nm v) (ri 1) ((Qbz (Qaa b_v)).mn)) [yQ 32,yQ 56] (rQ 59),gs (Qbo ((1:Rat) - (nm v))) [yQ 59] (rS 62)]
theorem n4_2_o2(z w u v:QC)(b_z:Qab z)(b_w:Qab w)(b_u:Qab u)(b_v:Qab v)(hz:hN2 z)(hw:hN2 w)(hu:hO2 u):SMt 29 [((Qad z).cells++(Qad w).cells++(Qad u).cells++(Qad v).cells,28)] [.f (gIi 2),.sl 0 0 4 4] (.r (gIi 350)) :=
  (Classical.em ((((1 : Rat) - (nm v)).num.sign) > 0)).elim (fun h0 => Qaw (L := n4_2_o2_L z w u v) Qae Qai
     (n4_2_o2_T1 z w u v b_z b_w b_u b_v)
     [gtY 3 (.sym 41) (li 0) (((1:Rat) - (nm z)).num.sign) 0 (sg_y hz),gtY 3 (.sym 48) (li 0) (((1:Rat) - (nm w)).num.sign) 0 (sg_y hw),gtN 3 (.sym 55) (li 0) (((1:Rat) - (nm u)).num.sign) 0 (sg_n hu),gtY 3 (.sym 62) (li 0) (((1:Rat) - (nm v)).num.sign) 0 h0] [] Qci 1 3 Tryz.func29 eo29 2000 [⟨Qaj 0 32,28,none⟩] [lc 2,.c (.sl 0 0 4 4)] (.r (lc 350)))
   (fun h0=>Qaw (L:=n4_2_o2_L z w u v) Qae Qai
     (n4_2_o2_T1 z w u v b_z b_w b_u b_v)
     [gtY 3 (.sym 41) (li 0) (((1:Rat) - (nm z)).num.sign) 0 (sg_y hz),gtY 3 (.sym 48) (li 0) (((1:Rat) - (nm w)).num.sign) 0 (sg_y hw),gtN 3 (.sym 55) (li 0) (((1:Rat) - (nm u)).num.sign) 0 (sg_n hu),gtN 3 (.sym 62) (li 0) (((1:Rat) - (nm v)).num.sign) 0 h0] [] Qci 1 3 Tryz.func29 eo29 2000 [⟨Qaj 0 32,28,none⟩] [lc 2,.c (.sl 0 0 4 4)] (.r (lc 350)))
def n4_2_o3_L(z w u v:QC):List GF:=[(Qad z).cells,(Qad w).cells,(Qad u).cells,(Qad v).cells,cF (1:Rat),cF (nm z),cF ((1:Rat) - (nm z)),[gxi (((1:Rat) - (nm z)).num.sign)],cF (nm w),cF ((1:Rat) - (nm w)),[gxi (((1:Rat) - (nm w)).num.sign)],cF (nm u),cF ((1:Rat) - (nm u)),[gxi (((1:Rat) - (nm u)).num.sign)],cF (nm v),cF ((1:Rat) - (nm v)),[gxi (((1:Rat) - (nm v)).num.sign)]].flatten
theorem n4_2_o3(z w u v:QC)(b_z:Qab z)(b_w:Qab w)(b_u:Qab u)(b_v:Qab v)(hz:hN2 z)(hw:hN2 w)(hu:hN2 u)(hv:hO2 v):SMt 29 [((Qad z).cells++(Qad w).cells++(Qad u).cells++(Qad v).cells,28)] [.f (gIi 2),.sl 0 0 4 4] (.r (gIi 350)) :=
  Qaw (L := n4_2_o3_L z w u v) Qae Qai
     [gs (Qcj (Qad z) true (tI (Qav b_z))) [yR 0 8] vTt,gs (Qgs 1 (by decide) (by decide)) [lc 1] (rQ 32),gs (Qfp z ((Qaa b_z).mn)) [yR 0 8] (rQ 35),gs (Qbs (1:Rat) (nm z) (ri 1) ((Qbz (Qaa b_z)).mn)) [yQ 32,yQ 35] (rQ 38),gs (Qbo ((1:Rat) - (nm z))) [yQ 38] (rS 41),gs (Qcj (Qad w) true (tI (Qav b_w))) [yR 8 8] vTt,gs (Qfp w ((Qaa b_w).mn)) [yR 8 8] (rQ 42),gs (Qbs (1:Rat) (nm w) (ri 1) ((Qbz (Qaa b_w)).mn)) [yQ 32,yQ 42] (rQ 45),gs (Qbo ((1:Rat) - (nm w))) [yQ 45] (rS 48),gs (Qcj (Qad u) true (tI (Qav b_u))) [yR 16 8] vTt,gs (Qfp u ((Qaa b_u).mn)) [yR 16 8] (rQ 49),gs (Qbs (1:Rat) (nm u) (ri 1) ((Qbz (Qaa b_u)).mn)) [yQ 32,yQ 49] (rQ 52),gs (Qbo ((1:Rat) - (nm u))) [yQ 52] (rS 55),gs (Qcj (Qad v) true (tI (Qav b_v))) [yR 24 8] vTt,gs (Qfp v ((Qaa b_v).mn)) [yR 24 8] (rQ 56),gs (Qbs (1:Rat) (nm v) (ri 1) ((Qbz (Qaa b_v)).mn)) [yQ 32,yQ 56] (rQ 59),gs (Qbo ((1:Rat) - (nm v))) [yQ 59] (rS 62)]
     [gtY 3 (.sym 41) (li 0) (((1:Rat) - (nm z)).num.sign) 0 (sg_y hz),gtY 3 (.sym 48) (li 0) (((1:Rat) - (nm w)).num.sign) 0 (sg_y hw),gtY 3 (.sym 55) (li 0) (((1:Rat) - (nm u)).num.sign) 0 (sg_y hu),gtN 3 (.sym 62) (li 0) (((1:Rat) - (nm v)).num.sign) 0 (sg_n hv)] [] Qci 1 3 Tryz.func29 eo29 2000 [⟨Qaj 0 32,28,none⟩] [lc 2,.c (.sl 0 0 4 4)] (.r (lc 350))
def n4_2_in_L(z w u v:QC):List GF:=[(Qad z).cells,(Qad w).cells,(Qad u).cells,(Qad v).cells,cF (1:Rat),cF (nm z),cF ((1:Rat) - (nm z)),[gxi (((1:Rat) - (nm z)).num.sign)],cF (nm w),cF ((1:Rat) - (nm w)),[gxi (((1:Rat) - (nm w)).num.sign)],cF (nm u),cF ((1:Rat) - (nm u)),[gxi (((1:Rat) - (nm u)).num.sign)],cF (nm v),cF ((1:Rat) - (nm v)),[gxi (((1:Rat) - (nm v)).num.sign)]].flatten
theorem n4_2_in(z w u v:QC)(b_z:Qab z)(b_w:Qab w)(b_u:Qab u)(b_v:Qab v)(hz:hN2 z)(hw:hN2 w)(hu:hN2 u)(hv:hN2 v):SMt 29 [((Qad z).cells++(Qad w).cells++(Qad u).cells++(Qad v).cells,28)] [.f (gIi 2),.sl 0 0 4 4] (.r (gIi 0)) :=
  Qaw (L := n4_2_in_L z w u v) Qae Qai
     [gs (Qcj (Qad z) true (tI (Qav b_z))) [yR 0 8] vTt,gs (Qgs 1 (by decide) (by decide)) [lc 1] (rQ 32),gs (Qfp z ((Qaa b_z).mn)) [yR 0 8] (rQ 35),gs (Qbs (1:Rat) (nm z) (ri 1) ((Qbz (Qaa b_z)).mn)) [yQ 32,yQ 35] (rQ 38),gs (Qbo ((1:Rat) - (nm z))) [yQ 38] (rS 41),gs (Qcj (Qad w) true (tI (Qav b_w))) [yR 8 8] vTt,gs (Qfp w ((Qaa b_w).mn)) [yR 8 8] (rQ 42),gs (Qbs (1:Rat) (nm w) (ri 1) ((Qbz (Qaa b_w)).mn)) [yQ 32,yQ 42] (rQ 45),gs (Qbo ((1:Rat) - (nm w))) [yQ 45] (rS 48),gs (Qcj (Qad u) true (tI (Qav b_u))) [yR 16 8] vTt,gs (Qfp u ((Qaa b_u).mn)) [yR 16 8] (rQ 49),gs (Qbs (1:Rat) (nm u) (ri 1) ((Qbz (Qaa b_u)).mn)) [yQ 32,yQ 49] (rQ 52),gs (Qbo ((1:Rat) - (nm u))) [yQ 52] (rS 55),gs (Qcj (Qad v) true (tI (Qav b_v))) [yR 24 8] vTt,gs (Qfp v ((Qaa b_v).mn)) [yR 24 8] (rQ 56),gs (Qbs (1:Rat) (nm v) (ri 1) ((Qbz (Qaa b_v)).mn)) [yQ 32,yQ 56] (rQ 59),gs (Qbo ((1:Rat) - (nm v))) [yQ 59] (rS 62)]
     [gtY 3 (.sym 41) (li 0) (((1:Rat) - (nm z)).num.sign) 0 (sg_y hz),gtY 3 (.sym 48) (li 0) (((1:Rat) - (nm w)).num.sign) 0 (sg_y hw),gtY 3 (.sym 55) (li 0) (((1:Rat) - (nm u)).num.sign) 0 (sg_y hu),gtY 3 (.sym 62) (li 0) (((1:Rat) - (nm v)).num.sign) 0 (sg_y hv)] [] Qci 1 3 Tryz.func29 eo29 2000 [⟨Qaj 0 32,28,none⟩] [lc 2,.c (.sl 0 0 4 4)] (.r (lc 0))
end Go.Proofs.YtmimficdpfmfgaaGreat
