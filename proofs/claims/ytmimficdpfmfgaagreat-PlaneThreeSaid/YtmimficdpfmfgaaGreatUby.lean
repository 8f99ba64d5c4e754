/- Laws for the walk. -/
import Derived.Test.YtmimficdpfmfgaaGreatUbv
import Derived.Test.YtmimficdpfmfgaaGreatUbx
set_option linter.unusedVariables false
set_option linter.unusedSimpArgs false
set_option maxHeartbeats 4000000
set_option maxRecDepth 100000
namespace Go.Proofs.YtmimficdpfmfgaaGreat
open Go.RowKit Tr
open Classical
theorem in_P1(x z w:QC)(b_x:Qab x)(b_z:Qab z)(b_w:Qab w)(hx:hN1 x)(hz:hN1 z)(hw:hN1 w):SMt 29 [((Qae x).cells++(Qae z).cells++(Qae w).cells,28)] [.f (gIi 1),.sl 0 0 3 3] (.r (gIi 0)) :=
  Qcb (L := [(Qae x).cells,(Qae z).cells,(Qae w).cells,[gxi x.im.num.sign],[gxi z.im.num.sign],[gxi w.im.num.sign]].flatten) Qad Qag
     [gs (Qdl (Qae x) true (tI (Qcd b_x))) [yR 0 8] vTt,gs (Qbu x.im) [yR 4 4] (rS 24),gs (Qdl (Qae z) true (tI (Qcd b_z))) [yR 8 8] vTt,gs (Qbu z.im) [yR 12 4] (rS 25),gs (Qdl (Qae w) true (tI (Qcd b_w))) [yR 16 8] vTt,gs (Qbu w.im) [yR 20 4] (rS 26)]
     [gtY 3 (.sym 24) (li 0) x.im.num.sign 0 (sg_y hx),gtY 3 (.sym 25) (li 0) z.im.num.sign 0 (sg_y hz),gtY 3 (.sym 26) (li 0) w.im.num.sign 0 (sg_y hw)] [] Qcu 1 3 Tryz.func29 eo29 2000 [⟨Qav 0 24,28,none⟩] [lc 1,.c (.sl 0 0 3 3)] (.r (lc 0))
theorem in_S1(x z w:QC)(b_x:Qab x)(b_z:Qab z)(b_w:Qab w)(hx:hN1 x)(hz:hN1 z)(hw:hN1 w)(e1:x=z):SCt 56 [gIi 1,.row ((Qae x).cells),.row ((Qae z).cells),.row ((Qae w).cells)] (.tup [.row (zFG),gIi 0,gIi 200]) :=
  Qai (L := [(Qae x).cells,(Qae z).cells,(Qae w).cells,(Qae (⟨0,1⟩ : QC)).cells,(Qae (⟨0,0⟩ : QC)).cells,cn x,[gr x.re],[gr x.im],[gxi x.im.num.sign],cn z,[gr z.re],[gr z.im],[gxi z.im.num.sign],cn w,[gr w.re],[gr w.im],[gxi w.im.num.sign]].flatten) Qad Qag
     [gpi 0 1 24,gpi 0 0 32,gs (Qcg x b_x) [yR 0 8] (.tup [sy [40,41],cTt]),gs (Qba x ((Qaa b_x).mn)) [sy [40,41]] (.tup [cS 42,cS 43]),gs (Qal x.im) [cS 43] (rS 44),gs (Qcg z b_z) [yR 8 8] (.tup [sy [45,46],cTt]),gs (Qba z ((Qaa b_z).mn)) [sy [45,46]] (.tup [cS 47,cS 48]),gs (Qal z.im) [cS 48] (rS 49),gs (Qcg w b_w) [yR 16 8] (.tup [sy [50,51],cTt]),gs (Qba w ((Qaa b_w).mn)) [sy [50,51]] (.tup [cS 52,cS 53]),gs (Qal w.im) [cS 53] (rS 54)]
     [bLf 3 44 hx,bLf 3 49 hz,bLf 3 54 hw,bG (yR 0 8) (yR 8 8) (Qae x) (Qae z) true ((tI e1).trans Qax.symm)] [] Qbx 1 3 Tryz.func56 eo56 2000 [lc 1,yR 0 8,yR 8 8,yR 16 8] (.tup [.row (zFA),lc 0,lc 200])
theorem in_T1(x z w:QC)(b_x:Qab x)(b_z:Qab z)(b_w:Qab w)(hx:hN1 x)(hz:hN1 z)(hw:hN1 w)(e1:¬(x=z))(e2:x=w):SCt 56 [gIi 1,.row ((Qae x).cells),.row ((Qae z).cells),.row ((Qae w).cells)] (.tup [.row (zFG),gIi 0,gIi 200]) :=
  Qai (L := [(Qae x).cells,(Qae z).cells,(Qae w).cells,(Qae (⟨0,1⟩ : QC)).cells,(Qae (⟨0,0⟩ : QC)).cells,cn x,[gr x.re],[gr x.im],[gxi x.im.num.sign],cn z,[gr z.re],[gr z.im],[gxi z.im.num.sign],cn w,[gr w.re],[gr w.im],[gxi w.im.num.sign]].flatten) Qad Qag
     [gpi 0 1 24,gpi 0 0 32,gs (Qcg x b_x) [yR 0 8] (.tup [sy [40,41],cTt]),gs (Qba x ((Qaa b_x).mn)) [sy [40,41]] (.tup [cS 42,cS 43]),gs (Qal x.im) [cS 43] (rS 44),gs (Qcg z b_z) [yR 8 8] (.tup [sy [45,46],cTt]),gs (Qba z ((Qaa b_z).mn)) [sy [45,46]] (.tup [cS 47,cS 48]),gs (Qal z.im) [cS 48] (rS 49),gs (Qcg w b_w) [yR 16 8] (.tup [sy [50,51],cTt]),gs (Qba w ((Qaa b_w).mn)) [sy [50,51]] (.tup [cS 52,cS 53]),gs (Qal w.im) [cS 53] (rS 54)]
     [bLf 3 44 hx,bLf 3 49 hz,bLf 3 54 hw,bG (yR 0 8) (yR 8 8) (Qae x) (Qae z) false ((fI e1).trans Qax.symm),bG (yR 0 8) (yR 16 8) (Qae x) (Qae w) true ((tI e2).trans Qax.symm)] [] Qbx 1 3 Tryz.func56 eo56 2000 [lc 1,yR 0 8,yR 8 8,yR 16 8] (.tup [.row (zFA),lc 0,lc 200])
theorem in_P2(x z w:QC)(b_x:Qab x)(b_z:Qab z)(b_w:Qab w)(hx:hN2 x)(hz:hN2 z)(hw:hN2 w):SMt 29 [((Qae x).cells++(Qae z).cells++(Qae w).cells,28)] [.f (gIi 2),.sl 0 0 3 3] (.r (gIi 0)) :=
  Qcb (L := [(Qae x).cells,(Qae z).cells,(Qae w).cells,cF (1 : Rat),cF (nm x),cF ((1 : Rat) - (nm x)),[gxi (((1 : Rat) - (nm x)).num.sign)],cF (nm z),cF ((1 : Rat) - (nm z)),[gxi (((1 : Rat) - (nm z)).num.sign)],cF (nm w),cF ((1 : Rat) - (nm w)),[gxi (((1 : Rat) - (nm w)).num.sign)]].flatten) Qad Qag
     [gs (Qdl (Qae x) true (tI (Qcd b_x))) [yR 0 8] vTt,gs (Qea 1 (by decide) (by decide)) [lc 1] (rQ 24),gs (Qds x ((Qaa b_x).mn)) [yR 0 8] (rQ 27),gs (Qbk (1:Rat) (nm x) (ri 1) ((Qak (Qaa b_x)).mn)) [yQ 24,yQ 27] (rQ 30),gs (Qbu ((1:Rat) - (nm x))) [yQ 30] (rS 33),gs (Qdl (Qae z) true (tI (Qcd b_z))) [yR 8 8] vTt,gs (Qds z ((Qaa b_z).mn)) [yR 8 8] (rQ 34),gs (Qbk (1:Rat) (nm z) (ri 1) ((Qak (Qaa b_z)).mn)) [yQ 24,yQ 34] (rQ 37),gs (Qbu ((1:Rat) - (nm z))) [yQ 37] (rS 40),gs (Qdl (Qae w) true (tI (Qcd b_w))) [yR 16 8] vTt,gs (Qds w ((Qaa b_w).mn)) [yR 16 8] (rQ 41),gs (Qbk (1:Rat) (nm w) (ri 1) ((Qak (Qaa b_w)).mn)) [yQ 24,yQ 41] (rQ 44),gs (Qbu ((1:Rat) - (nm w))) [yQ 44] (rS 47)]
     [gtY 3 (.sym 33) (li 0) (((1:Rat) - (nm x)).num.sign) 0 (sg_y hx),gtY 3 (.sym 40) (li 0) (((1:Rat) - (nm z)).num.sign) 0 (sg_y hz),gtY 3 (.sym 47) (li 0) (((1:Rat) - (nm w)).num.sign) 0 (sg_y hw)] [] Qcu 1 3 Tryz.func29 eo29 2000 [⟨Qav 0 24,28,none⟩] [lc 2,.c (.sl 0 0 3 3)] (.r (lc 0))
def in_S2_L(x z w:QC):List GF:=[(Qae x).cells,(Qae z).cells,(Qae w).cells,(Qae (⟨0,1⟩:QC)).cells,(Qae (⟨0,0⟩:QC)).cells,cn x,[gr (1:Rat)],[gr (nm x)],[gr ((1:Rat) - (nm x))],[gxi (((1:Rat) - (nm x)).num.sign)],cn z,[gr (nm z)],[gr ((1:Rat) - (nm z))],[gxi (((1:Rat) - (nm z)).num.sign)],cn w,[gr (nm w)],[gr ((1:Rat) - (nm w))],[gxi (((1:Rat) - (nm w)).num.sign)]].flatten
theorem in_S2(x z w:QC)(b_x:Qab x)(b_z:Qab z)(b_w:Qab w)(hx:hN2 x)(hz:hN2 z)(hw:hN2 w)(e1:x=z):SCt 56 [gIi 2,.row ((Qae x).cells),.row ((Qae z).cells),.row ((Qae w).cells)] (.tup [.row (zFG),gIi 0,gIi 200]) :=
  Qai (L := in_S2_L x z w) Qad Qag
     [gpi 0 1 24,gpi 0 0 32,gs (Qcg x b_x) [yR 0 8] (.tup [sy [40,41],cTt]),gs (pnr 1) [lc 1,lc 1] (rS 42),gs (Qbf x ((Qaa b_x).mn)) [sy [40,41]] (rS 43),gs (Qbb (1:Rat) (nm x) (ri 1) ((Qak (Qaa b_x)).mn)) [cS 42,cS 43] (rS 44),gs (Qal ((1:Rat) - (nm x))) [cS 44] (rS 45),gs (Qcg z b_z) [yR 8 8] (.tup [sy [46,47],cTt]),gs (Qbf z ((Qaa b_z).mn)) [sy [46,47]] (rS 48),gs (Qbb (1:Rat) (nm z) (ri 1) ((Qak (Qaa b_z)).mn)) [cS 42,cS 48] (rS 49),gs (Qal ((1:Rat) - (nm z))) [cS 49] (rS 50),gs (Qcg w b_w) [yR 16 8] (.tup [sy [51,52],cTt]),gs (Qbf w ((Qaa b_w).mn)) [sy [51,52]] (rS 53),gs (Qbb (1:Rat) (nm w) (ri 1) ((Qak (Qaa b_w)).mn)) [cS 42,cS 53] (rS 54),gs (Qal ((1:Rat) - (nm w))) [cS 54] (rS 55)]
     [bLf 3 45 hx,bLf 3 50 hz,bLf 3 55 hw,bG (yR 0 8) (yR 8 8) (Qae x) (Qae z) true ((tI e1).trans Qax.symm)] [] Qbx 1 3 Tryz.func56 eo56 2000 [lc 2,yR 0 8,yR 8 8,yR 16 8] (.tup [.row (zFA),lc 0,lc 200])
def in_T2_L(x z w:QC):List GF:=[(Qae x).cells,(Qae z).cells,(Qae w).cells,(Qae (⟨0,1⟩:QC)).cells,(Qae (⟨0,0⟩:QC)).cells,cn x,[gr (1:Rat)],[gr (nm x)],[gr ((1:Rat) - (nm x))],[gxi (((1:Rat) - (nm x)).num.sign)],cn z,[gr (nm z)],[gr ((1:Rat) - (nm z))],[gxi (((1:Rat) - (nm z)).num.sign)],cn w,[gr (nm w)],[gr ((1:Rat) - (nm w))],[gxi (((1:Rat) - (nm w)).num.sign)]].flatten
theorem in_T2(x z w:QC)(b_x:Qab x)(b_z:Qab z)(b_w:Qab w)(hx:hN2 x)(hz:hN2 z)(hw:hN2 w)(e1:¬(x=z))(e2:x=w):SCt 56 [gIi 2,.row ((Qae x).cells),.row ((Qae z).cells),.row ((Qae w).cells)] (.tup [.row (zFG),gIi 0,gIi 200]) :=
  Qai (L := in_T2_L x z w) Qad Qag
     [gpi 0 1 24,gpi 0 0 32,gs (Qcg x b_x) [yR 0 8] (.tup [sy [40,41],cTt]),gs (pnr 1) [lc 1,lc 1] (rS 42),gs (Qbf x ((Qaa b_x).mn)) [sy [40,41]] (rS 43),gs (Qbb (1:Rat) (nm x) (ri 1) ((Qak (Qaa b_x)).mn)) [cS 42,cS 43] (rS 44),gs (Qal ((1:Rat) - (nm x))) [cS 44] (rS 45),gs (Qcg z b_z) [yR 8 8] (.tup [sy [46,47],cTt]),gs (Qbf z ((Qaa b_z).mn)) [sy [46,47]] (rS 48),gs (Qbb (1:Rat) (nm z) (ri 1) ((Qak (Qaa b_z)).mn)) [cS 42,cS 48] (rS 49),gs (Qal ((1:Rat) - (nm z))) [cS 49] (rS 50),gs (Qcg w b_w) [yR 16 8] (.tup [sy [51,52],cTt]),gs (Qbf w ((Qaa b_w).mn)) [sy [51,52]] (rS 53),gs (Qbb (1:Rat) (nm w) (ri 1) ((Qak (Qaa b_w)).mn)) [cS 42,cS 53] (rS 54),gs (Qal ((1:Rat) - (nm w))) [cS 54] (rS 55)]
     [bLf 3 45 hx,bLf 3 50 hz,bLf 3 55 hw,bG (yR 0 8) (yR 8 8) (Qae x) (Qae z) false ((fI e1).trans Qax.symm),bG (yR 0 8) (yR 16 8) (Qae x) (Qae w) true ((tI e2).trans Qax.symm)] [] Qbx 1 3 Tryz.func56 eo56 2000 [lc 2,yR 0 8,yR 8 8,yR 16 8] (.tup [.row (zFA),lc 0,lc 200])
end Go.Proofs.YtmimficdpfmfgaaGreat
namespace Go.Proofs.YtmimficdpfmfgaaGreat
open Go.RowKit Tr
open Classical
theorem pts1_1(z:QC)(b_z:Qab z)(hz:hN1 z):SMt 29 [((Qae z).cells,28)] [.f (gIi 1),.sl 0 0 1 1] (.r (gIi 0)) :=
  Qcb (L := [(Qae z).cells,[gxi z.im.num.sign]].flatten) Qad Qag
     [gs (Qdl (Qae z) true (tI (Qcd b_z))) [yR 0 8] vTt,gs (Qbu z.im) [yR 4 4] (rS 8)]
     [gtY 3 (.sym 8) (li 0) z.im.num.sign 0 (sg_y hz)] [] ((fs13 (fs96 (fs136 (fs138 .nil)))):FnsOk Tryz.prog _) 1 3 Tryz.func29 eo29 2000 [⟨Qav 0 8,28,none⟩] [lc 1,.c (.sl 0 0 1 1)] (.r (lc 0))
theorem pts1_2(z:QC)(b_z:Qab z)(hz:hN2 z):SMt 29 [((Qae z).cells,28)] [.f (gIi 2),.sl 0 0 1 1] (.r (gIi 0)) :=
  Qcb (L := [(Qae z).cells,cF (1 : Rat),cF (nm z),cF ((1 : Rat) - (nm z)),[gxi (((1 : Rat) - (nm z)).num.sign)]].flatten) Qad Qag
     [gs (Qdl (Qae z) true (tI (Qcd b_z))) [yR 0 8] vTt,gs (Qea 1 (by decide) (by decide)) [lc 1] (rQ 8),gs (Qds z ((Qaa b_z).mn)) [yR 0 8] (rQ 11),gs (Qbk (1:Rat) (nm z) (ri 1) ((Qak (Qaa b_z)).mn)) [yQ 8,yQ 11] (rQ 14),gs (Qbu ((1:Rat) - (nm z))) [yQ 14] (rS 17)]
     [gtY 3 (.sym 17) (li 0) (((1:Rat) - (nm z)).num.sign) 0 (sg_y hz)] [] ((fs13 (fs96 (fs136 (fs138 .nil)))):FnsOk Tryz.prog _) 1 3 Tryz.func29 eo29 2000 [⟨Qav 0 8,28,none⟩] [lc 2,.c (.sl 0 0 1 1)] (.r (lc 0))
end Go.Proofs.YtmimficdpfmfgaaGreat
namespace Go.Proofs.YtmimficdpfmfgaaGreat
open Go.RowKit Tr
open Classical
theorem specUp{f:FuncId}{a:List FR}{r:FV}(h:Qbm Tryz.prog false f a r):SCt f a r:=⟨h.ent,fun w A vs _ h2 h3=>h.ok w A vs (fun e=>by cases e) h2 h3⟩
def Law3(p:Int)(x z w:Qbp)(y:Qdg):Prop:=SCt 7 [.c (gxi p),.row (x.cells++z.cells++w.cells),.row (y.cells)] (.r gTt)
def hY(p:Int)(x:Qbp)(y:Qdg)(n1:Int):Prop :=
 (∃ ca cb cc c1,hMf y∧hA p x y ca cb cc c1∧hE p x y ca cb cc c1 2)∨(∃ k ca cb cc c1,k≤0∧hMt y∧hC y k∧hA p x y ca cb cc c1∧hE p x y ca cb cc c1 2)∨(∃ k ca cb cc c1,¬(k≤0)∧hMt y∧hC y k∧hA p x y ca cb cc c1∧hE p x y ca cb cc c1 n1)
section
variable{p:Int}{x z w:Qbp}{y:Qdg}(hs:¬smHC x z w)(l1:¬((Sz y.s1)>24))(l2:¬((Sz y.s2)>24)){n1:Int}(N:hN p x n1)(Y:hY p x y n1)
include hs l1 l2 N Y
theorem R2(B:hB2 p x z w)(G:hG2 p x z w)(Q:hP2 p x z w):Law3 p x z w y:=by
 rcases Y with⟨ca,cb,cc,c1,M,A,E⟩|⟨k,ca,cb,cc,c1,hk,M,C,A,E⟩|⟨k,ca,cb,cc,c1,hk,M,C,A,E⟩
 ·exact thr_b2 p x z w y hs l1 l2 ca cb cc c1 n1    A B G Q N M  E
 ·exact thr_l2 p x z w y hs l1 l2 ca cb cc c1 n1  k  hk A B G Q N M C E
 ·exact thr_g2 p x z w y hs l1 l2 ca cb cc c1 n1  k  hk A B G Q N M C E
theorem R350(B:hB350 p x z w)(G:hG350 p x z w)(Q:hP350 p x z w):Law3 p x z w y:=by
 rcases Y with⟨ca,cb,cc,c1,M,A,E⟩|⟨k,ca,cb,cc,c1,hk,M,C,A,E⟩|⟨k,ca,cb,cc,c1,hk,M,C,A,E⟩
 ·exact thr_b350 p x z w y hs l1 l2 ca cb cc c1 n1    A B G Q N M  E
 ·exact thr_l350 p x z w y hs l1 l2 ca cb cc c1 n1  k  hk A B G Q N M C E
 ·exact thr_g350 p x z w y hs l1 l2 ca cb cc c1 n1  k  hk A B G Q N M C E
theorem Rz(e1:x=z)(B:hBt p x z w)(D:hDt p x z w)(G:hG200 p x z w)(Q:hP0 p x z w):Law3 p x z w y:=by
 rcases Y with⟨ca,cb,cc,c1,M,A,E⟩|⟨k,ca,cb,cc,c1,hk,M,C,A,E⟩|⟨k,ca,cb,cc,c1,hk,M,C,A,E⟩
 ·exact thr_bz p x z w y hs l1 l2 ca cb cc c1 n1 e1   A B D G Q N M  E
 ·exact thr_lz p x z w y hs l1 l2 ca cb cc c1 n1 e1 k  hk A B D G Q N M C E
 ·exact thr_gz p x z w y hs l1 l2 ca cb cc c1 n1 e1 k  hk A B D G Q N M C E
theorem Rw(e1:¬(x=z))(e2:x=w)(B:hBt p x z w)(D:hDt p x z w)(G:hG200 p x z w)(Q:hP0 p x z w):Law3 p x z w y:=by
 rcases Y with⟨ca,cb,cc,c1,M,A,E⟩|⟨k,ca,cb,cc,c1,hk,M,C,A,E⟩|⟨k,ca,cb,cc,c1,hk,M,C,A,E⟩
 ·exact thr_bw p x z w y hs l1 l2 ca cb cc c1 n1 e1 e2   A B D G Q N M  E
 ·exact thr_lw p x z w y hs l1 l2 ca cb cc c1 n1 e1 e2 k  hk A B D G Q N M C E
 ·exact thr_gw p x z w y hs l1 l2 ca cb cc c1 n1 e1 e2 k  hk A B D G Q N M C E
theorem Rt0(q:Rat)(s:Int)(e1:¬(x=z))(e2:¬(x=w))(B:hBt p x z w)(D:hDt p x z w)(G:hG0 p x z w q s)(W:hW p x z w q s)(Q:hP0 p x z w)(T:hT0 q):Law3 p x z w y:=by
 rcases Y with⟨ca,cb,cc,c1,M,A,E⟩|⟨k,ca,cb,cc,c1,hk,M,C,A,E⟩|⟨k,ca,cb,cc,c1,hk,M,C,A,E⟩
 ·exact thr_bt0 p x z w y hs l1 l2 ca cb cc c1 n1 e1 e2  q s A B D G W Q N M  E T
 ·exact thr_lt0 p x z w y hs l1 l2 ca cb cc c1 n1 e1 e2 k q s hk A B D G W Q N M C E T
 ·exact thr_gt0 p x z w y hs l1 l2 ca cb cc c1 n1 e1 e2 k q s hk A B D G W Q N M C E T
theorem Rt4(q:Rat)(s:Int)(e1:¬(x=z))(e2:¬(x=w))(B:hBt p x z w)(D:hDt p x z w)(G:hG4 p x z w)(W:hW p x z w q s)(Q:hP0 p x z w)(T:hT4 q):Law3 p x z w y:=by
 rcases Y with⟨ca,cb,cc,c1,M,A,E⟩|⟨k,ca,cb,cc,c1,hk,M,C,A,E⟩|⟨k,ca,cb,cc,c1,hk,M,C,A,E⟩
 ·exact thr_bt4 p x z w y hs l1 l2 ca cb cc c1 n1 e1 e2  q s A B D G W Q N M  E T
 ·exact thr_lt4 p x z w y hs l1 l2 ca cb cc c1 n1 e1 e2 k q s hk A B D G W Q N M C E T
 ·exact thr_gt4 p x z w y hs l1 l2 ca cb cc c1 n1 e1 e2 k q s hk A B D G W Q N M C E T
theorem Rf0(q:Rat)(s:Int)(e1:¬(x=z))(e2:¬(x=w))(B:hBf p x z w)(D:hDf p x z w)(G:hG0 p x z w q s)(W:hW p x z w q s)(Q:hP0 p x z w)(T:hT0 q):Law3 p x z w y:=by
 rcases Y with⟨ca,cb,cc,c1,M,A,E⟩|⟨k,ca,cb,cc,c1,hk,M,C,A,E⟩|⟨k,ca,cb,cc,c1,hk,M,C,A,E⟩
 ·exact thr_bf0 p x z w y hs l1 l2 ca cb cc c1 n1 e1 e2  q s A B D G W Q N M  E T
 ·exact thr_lf0 p x z w y hs l1 l2 ca cb cc c1 n1 e1 e2 k q s hk A B D G W Q N M C E T
 ·exact thr_gf0 p x z w y hs l1 l2 ca cb cc c1 n1 e1 e2 k q s hk A B D G W Q N M C E T
theorem Rf4(q:Rat)(s:Int)(e1:¬(x=z))(e2:¬(x=w))(B:hBf p x z w)(D:hDf p x z w)(G:hG4 p x z w)(W:hW p x z w q s)(Q:hP0 p x z w)(T:hT4 q):Law3 p x z w y:=by
 rcases Y with⟨ca,cb,cc,c1,M,A,E⟩|⟨k,ca,cb,cc,c1,hk,M,C,A,E⟩|⟨k,ca,cb,cc,c1,hk,M,C,A,E⟩
 ·exact thr_bf4 p x z w y hs l1 l2 ca cb cc c1 n1 e1 e2  q s A B D G W Q N M  E T
 ·exact thr_lf4 p x z w y hs l1 l2 ca cb cc c1 n1 e1 e2 k q s hk A B D G W Q N M C E T
 ·exact thr_gf4 p x z w y hs l1 l2 ca cb cc c1 n1 e1 e2 k q s hk A B D G W Q N M C E T
end
theorem hY_mk(p:Int)(x:Qbp)(y:Qdg)(n1:Int)(hy:y.Sz)(hb:¬Qde y.val→hA p x y zRF zRG zRF 2)(hl:∀ q,Qap q→Qfo q 1≤0→hA p x (rawF q) zRF zRG zRF 2)(hg:∀ q,Qap q→¬(Qfo q 1≤0)→∃ ca cb cc c1,hA p x (rawF q) ca cb cc c1∧hE p x (rawF q) ca cb cc c1 n1):hY p x y n1:=by
 by_cases h:Qde y.val
 ·obtain⟨q,rfl,hq⟩:=fOk_raw h
  have M:hMt (rawF q):=specUp (rfMayQ q hq)
  have C:hC (rawF q) (Qfo q 1):=specUp (rfCmp q 1 ((Qei hq).mono (by decide)) ((rj 1).mono (by decide)))
  by_cases hk:Qfo q 1≤0
  ·exact .inr (.inl ⟨_,_,_,_,_,hk,M,C,hl q hq hk,thE1_2 p x (rawF q)⟩)
  ·obtain⟨ca,cb,cc,c1,A,E⟩:=hg q hq hk
   exact .inr (.inr ⟨_,_,_,_,_,hk,M,C,A,E⟩)
 ·exact .inl ⟨_,_,_,_,specUp (rfMay y false (fI h)),hb h,thE1_2 p x y⟩
theorem aro_ans(p:Int)(x:QC)(q:Rat)(sx:Qab x)(f0 f1 f2 f3:Rat)(K:SCt 54 [.c (gxi p),.row (Qae x).cells,.row (rF q)] (if CirS f0 f1 f2 f3 then .tup [.row (cirF f0 f1 f2 f3),gIi 0] else .tup [.row (zGG++zGG),gIi 4]))
  (D:SCt 60 [.c (gxi p),.row (Qae x).cells,.row (rF q)] (.r (.row (cirF f0 f1 f2 f3)))):∃ ca cb cc c1,hA p (Qae x) (rawF q) ca cb cc c1∧hE p (Qae x) (rawF q) ca cb cc c1 0:=by
 by_cases h:CirS f0 f1 f2 f3
 ·exact⟨rawF (f0 / byF f0 f1 f2),Qae ⟨f1 / byF f0 f1 f2,f2 / byF f0 f1 f2⟩,rawF (f3 / byF f0 f1 f2),0,K.t h,thE1y _ _ _ _ p x q sx D h⟩
 ·exact⟨zRF,zRG,zRF,4,K.f h,thE1n p x q sx _ _ _ _ D h⟩
theorem sm_sz3{g1 g2 g3:Qbp}(h:¬smHC g1 g2 g3):g1.Sz∧g2.Sz∧g3.Sz:=by
 have k:∀ k,k<12→¬smHP g1 g2 g3 k:=fun k hk e=>h ⟨k,hk,e⟩
 have a0:=k 0 (by decide)
 have a1:=k 1 (by decide)
 have a2:=k 2 (by decide)
 have a3:=k 3 (by decide)
 have a4:=k 4 (by decide)
 have a5:=k 5 (by decide)
 have a6:=k 6 (by decide)
 have a7:=k 7 (by decide)
 have a8:=k 8 (by decide)
 have a9:=k 9 (by decide)
 have a10:=k 10 (by decide)
 have a11:=k 11 (by decide)
 simp[smHP,Sz] at a0 a1 a2 a3 a4 a5 a6 a7 a8 a9 a10 a11
 exact⟨⟨by omega,by omega,by omega,by omega⟩,⟨by omega,by omega,by omega,by omega⟩,by omega,by omega,by omega,by omega⟩
theorem yF_sz{y:Qdg}(l1:¬((Sz y.s1)>24))(l2:¬((Sz y.s2)>24)):y.Sz:=by
 simp[Sz] at l1 l2
 exact⟨by omega,by omega⟩
theorem aro_in1(x:QC)(q:Rat)(sx:Qab x)(hx:hN1 x)(sq:Qap q)(hy:¬(Qfo q 1≤0)):∃ ca cb cc c1,hA 1 (Qae x) (rawF q) ca cb cc c1∧hE 1 (Qae x) (rawF q) ca cb cc c1 0:=by
 have K:=pAro1 x q sx (Qei sq) hx sq hy
 have D:=dAro1 x q (Qaa sx) (Qei sq) hx hy
 exact aro_ans 1 x q sx _ _ _ _ K D
theorem three_in1(x z w:QC)(y:Qdg)(sx:Qab x)(sz:Qab z)(sw:Qab w)(hs:¬smHC (Qae x) (Qae z) (Qae w))(l1:¬((Sz y.s1)>24))(l2:¬((Sz y.s2)>24))(hx:hN1 x)(hz:hN1 z)(hw:hN1 w)(Y:hY 1 (Qae x) y 0):Law3 1 (Qae x) (Qae z) (Qae w) y:=by
 have N:hN 1 (Qae x) 0:=pts1_1 x sx hx
 have Q:hP0 1 (Qae x) (Qae z) (Qae w):=in_P1 x z w sx sz sw hx hz hw
 by_cases e1:x=z
 ·exact Rz hs l1 l2 N Y (congrArg Qae e1) (pBtA1 z x w sz sx sw hz hx hw e1) (dBtA1 z x w (Qaa sz) (Qaa sx) (Qaa sw) hz hx hw e1) (in_S1 x z w sx sz sw hx hz hw e1) Q
 have e1':¬(Qae x=Qae z):=fun h=>e1 (Qax.1 h)
 by_cases e2:x=w
 ·exact Rw hs l1 l2 N Y e1' (congrArg Qae e2) (pBtB1 z x w sz sx sw hz hx hw e1 e2) (dBtB1 z x w (Qaa sz) (Qaa sx) (Qaa sw) hz hx hw e1 e2) (in_T1 x z w sx sz sw hx hz hw e1 e2) Q
 have e2':¬(Qae x=Qae w):=fun h=>e2 (Qax.1 h)
 obtain⟨q,s,Wd,H⟩:=ang1 x z w sx sz sw hx hz hw e1 e2
 rcases btw1 x z w sx sz sw hx hz hw e1 e2 with⟨B,D⟩|⟨B,D⟩<;>rcases H with⟨h,G⟩|⟨h,G⟩
 ·exact Rt0 hs l1 l2 N Y q s e1' e2' B D G Wd Q (thT0 q q h)
 ·exact Rt4 hs l1 l2 N Y q s e1' e2' B D G Wd Q (thT4 q h)
 ·exact Rf0 hs l1 l2 N Y q s e1' e2' B D G Wd Q (thT0 q q h)
 ·exact Rf4 hs l1 l2 N Y q s e1' e2' B D G Wd Q (thT4 q h)
theorem three_p1(x z w:Qbp)(y:Qdg)(hs:¬smHC x z w)(l1:¬((Sz y.s1)>24))(l2:¬((Sz y.s2)>24)):Law3 1 x z w y:=by
 obtain⟨bx,bz,bw⟩:=sm_sz3 hs
 have hy:=yF_sz l1 l2
 by_cases kx:GOk x.val
 ·obtain⟨x,rfl,sx⟩:=Qfs kx
  by_cases hx:x.im.num.sign≤0
  ·have N:hN 1 (Qae x) 350:=no_N1_o0 x sx hx
   have Y:hY 1 (Qae x) y 350:=hY_mk 1 (Qae x) y 350 hy (fun h=>no_A1_y x y sx hy h) (fun q hq hk=>no_A1_1 x q sx (Qei hq) hq hk) (fun q hq hk=>⟨zRF,zRG,zRF,350,no_A1_o x q sx (Qei hq) hx hq hk,thE1_350 1 (Qae x) (rawF q)⟩)
   by_cases kz:GOk z.val
   ·obtain⟨z,rfl,sz⟩:=Qfs kz
    by_cases kw:GOk w.val
    ·obtain⟨w,rfl,sw⟩:=Qfs kw
     refine R350 hs l1 l2 N Y ?_ (no_G1_o0 x z w sx sz sw hx) (no_P1_o0 x z w sx sz sw hx)
     by_cases hz:z.im.num.sign≤0
     ·exact no_B1_o0 z x w sz sx sw hz
     ·exact no_B1_o1 z x w sz sx sw hz hx
    ·exact R2 hs l1 l2 N Y (no_B1_2 z x w sz sx bw kw) (no_G1_2 x z w sx sz bw kw) (no_P1_2 x z w sx sz bw kw)
   ·exact R2 hs l1 l2 N Y (no_B1_0 z (Qae x) w bz kz) (no_G1_1 x z w sx bz bw kz) (no_P1_1 x z w sx bz bw kz)
  ·have N:hN 1 (Qae x) 0:=pts1_1 x sx hx
   have Y:hY 1 (Qae x) y 0:=hY_mk 1 (Qae x) y 0 hy (fun h=>no_A1_y x y sx hy h) (fun q hq hk=>no_A1_1 x q sx (Qei hq) hq hk) (fun q hq hk=>aro_in1 x q sx hx hq hk)
   by_cases kz:GOk z.val
   ·obtain⟨z,rfl,sz⟩:=Qfs kz
    by_cases kw:GOk w.val
    ·obtain⟨w,rfl,sw⟩:=Qfs kw
     by_cases hz:z.im.num.sign≤0
     ·exact R350 hs l1 l2 N Y (no_B1_o0 z x w sz sx sw hz) (no_G1_o1 x z w sx sz sw hx hz) (no_P1_o1 x z w sx sz sw hx hz)
     ·by_cases hw:w.im.num.sign≤0
      ·exact R350 hs l1 l2 N Y (no_B1_o2 z x w sz sx sw hz hx hw) (no_G1_o2 x z w sx sz sw hx hz hw) (no_P1_o2 x z w sx sz sw hx hz hw)
      ·exact three_in1 x z w y sx sz sw hs l1 l2 hx hz hw Y
    ·exact R2 hs l1 l2 N Y (no_B1_2 z x w sz sx bw kw) (no_G1_2 x z w sx sz bw kw) (no_P1_2 x z w sx sz bw kw)
   ·exact R2 hs l1 l2 N Y (no_B1_0 z (Qae x) w bz kz) (no_G1_1 x z w sx bz bw kz) (no_P1_1 x z w sx bz bw kz)
 ·have N:hN 1 x 2:=no_N1_0 x bx kx
  have A:∀ y:Qdg,y.Sz→hA 1 x y zRF zRG zRF 2:=fun y hy=>no_A1_0 x y bx hy kx
  have Y:hY 1 x y 2:=hY_mk 1 x y 2 hy (fun _=>A y hy) (fun q hq _=>A _ (rawF_sz hq)) (fun q hq _=>⟨zRF,zRG,zRF,2,A _ (rawF_sz hq),thE1_2 1 x (rawF q)⟩)
  refine R2 hs l1 l2 N Y ?_ (no_G1_0 x z w bx kx) (no_P1_0 x z w bx kx)
  by_cases kz:GOk z.val
  ·obtain⟨z,rfl,sz⟩:=Qfs kz
   exact no_B1_1 z x w sz bx bw kx
  ·exact no_B1_0 z x w bz kz
theorem aro_in2(x:QC)(q:Rat)(sx:Qab x)(hx:hN2 x)(sq:Qap q)(hy:¬(Qfo q 1≤0)):∃ ca cb cc c1,hA 2 (Qae x) (rawF q) ca cb cc c1∧hE 2 (Qae x) (rawF q) ca cb cc c1 0:=by
 have K:=pAro2 x q sx (Qei sq) hx sq hy
 have D:=dAro2 x q (Qaa sx) (Qei sq) hx hy
 have e0:(wt46 x q)=(wt44 x q):=by simp only[wt46,wt43,wt44]<;>grind
 have e1:(wt47 x q)=(wt45 x q):=by simp only[wt47,wt43,wt45]<;>grind
 rw[e0,e1] at D
 exact aro_ans 2 x q sx _ _ _ _ K D
theorem three_in2(x z w:QC)(y:Qdg)(sx:Qab x)(sz:Qab z)(sw:Qab w)(hs:¬smHC (Qae x) (Qae z) (Qae w))(l1:¬((Sz y.s1)>24))(l2:¬((Sz y.s2)>24))(hx:hN2 x)(hz:hN2 z)(hw:hN2 w)(Y:hY 2 (Qae x) y 0):Law3 2 (Qae x) (Qae z) (Qae w) y:=by
 have N:hN 2 (Qae x) 0:=pts1_2 x sx hx
 have Q:hP0 2 (Qae x) (Qae z) (Qae w):=in_P2 x z w sx sz sw hx hz hw
 by_cases e1:x=z
 ·exact Rz hs l1 l2 N Y (congrArg Qae e1) (pBtA2 z x w sz sx sw hz hx hw e1) (dBtA2 z x w (Qaa sz) (Qaa sx) (Qaa sw) hz hx hw e1) (in_S2 x z w sx sz sw hx hz hw e1) Q
 have e1':¬(Qae x=Qae z):=fun h=>e1 (Qax.1 h)
 by_cases e2:x=w
 ·exact Rw hs l1 l2 N Y e1' (congrArg Qae e2) (pBtB2 z x w sz sx sw hz hx hw e1 e2) (dBtB2 z x w (Qaa sz) (Qaa sx) (Qaa sw) hz hx hw e1 e2) (in_T2 x z w sx sz sw hx hz hw e1 e2) Q
 have e2':¬(Qae x=Qae w):=fun h=>e2 (Qax.1 h)
 obtain⟨q,s,Wd,H⟩:=ang2 x z w sx sz sw hx hz hw e1 e2
 rcases btw2 x z w sx sz sw hx hz hw e1 e2 with⟨B,D⟩|⟨B,D⟩<;>rcases H with⟨h,G⟩|⟨h,G⟩
 ·exact Rt0 hs l1 l2 N Y q s e1' e2' B D G Wd Q (thT0 q q h)
 ·exact Rt4 hs l1 l2 N Y q s e1' e2' B D G Wd Q (thT4 q h)
 ·exact Rf0 hs l1 l2 N Y q s e1' e2' B D G Wd Q (thT0 q q h)
 ·exact Rf4 hs l1 l2 N Y q s e1' e2' B D G Wd Q (thT4 q h)
theorem three_p2(x z w:Qbp)(y:Qdg)(hs:¬smHC x z w)(l1:¬((Sz y.s1)>24))(l2:¬((Sz y.s2)>24)):Law3 2 x z w y:=by
 obtain⟨bx,bz,bw⟩:=sm_sz3 hs
 have hy:=yF_sz l1 l2
 by_cases kx:GOk x.val
 ·obtain⟨x,rfl,sx⟩:=Qfs kx
  by_cases hx:(((1:Rat) - (nm x)).num.sign)≤0
  ·have N:hN 2 (Qae x) 350:=no_N2_o0 x sx hx
   have Y:hY 2 (Qae x) y 350:=hY_mk 2 (Qae x) y 350 hy (fun h=>no_A2_y x y sx hy h) (fun q hq hk=>no_A2_1 x q sx (Qei hq) hq hk) (fun q hq hk=>⟨zRF,zRG,zRF,350,no_A2_o x q sx (Qei hq) hx hq hk,thE1_350 2 (Qae x) (rawF q)⟩)
   by_cases kz:GOk z.val
   ·obtain⟨z,rfl,sz⟩:=Qfs kz
    by_cases kw:GOk w.val
    ·obtain⟨w,rfl,sw⟩:=Qfs kw
     refine R350 hs l1 l2 N Y ?_ (no_G2_o0 x z w sx sz sw hx) (no_P2_o0 x z w sx sz sw hx)
     by_cases hz:(((1:Rat) - (nm z)).num.sign)≤0
     ·exact no_B2_o0 z x w sz sx sw hz
     ·exact no_B2_o1 z x w sz sx sw hz hx
    ·exact R2 hs l1 l2 N Y (no_B2_2 z x w sz sx bw kw) (no_G2_2 x z w sx sz bw kw) (no_P2_2 x z w sx sz bw kw)
   ·exact R2 hs l1 l2 N Y (no_B2_0 z (Qae x) w bz kz) (no_G2_1 x z w sx bz bw kz) (no_P2_1 x z w sx bz bw kz)
  ·have N:hN 2 (Qae x) 0:=pts1_2 x sx hx
   have Y:hY 2 (Qae x) y 0:=hY_mk 2 (Qae x) y 0 hy (fun h=>no_A2_y x y sx hy h) (fun q hq hk=>no_A2_1 x q sx (Qei hq) hq hk) (fun q hq hk=>aro_in2 x q sx hx hq hk)
   by_cases kz:GOk z.val
   ·obtain⟨z,rfl,sz⟩:=Qfs kz
    by_cases kw:GOk w.val
    ·obtain⟨w,rfl,sw⟩:=Qfs kw
     by_cases hz:(((1:Rat) - (nm z)).num.sign)≤0
     ·exact R350 hs l1 l2 N Y (no_B2_o0 z x w sz sx sw hz) (no_G2_o1 x z w sx sz sw hx hz) (no_P2_o1 x z w sx sz sw hx hz)
     ·by_cases hw:(((1:Rat) - (nm w)).num.sign)≤0
      ·exact R350 hs l1 l2 N Y (no_B2_o2 z x w sz sx sw hz hx hw) (no_G2_o2 x z w sx sz sw hx hz hw) (no_P2_o2 x z w sx sz sw hx hz hw)
      ·exact three_in2 x z w y sx sz sw hs l1 l2 hx hz hw Y
    ·exact R2 hs l1 l2 N Y (no_B2_2 z x w sz sx bw kw) (no_G2_2 x z w sx sz bw kw) (no_P2_2 x z w sx sz bw kw)
   ·exact R2 hs l1 l2 N Y (no_B2_0 z (Qae x) w bz kz) (no_G2_1 x z w sx bz bw kz) (no_P2_1 x z w sx bz bw kz)
 ·have N:hN 2 x 2:=no_N2_0 x bx kx
  have A:∀ y:Qdg,y.Sz→hA 2 x y zRF zRG zRF 2:=fun y hy=>no_A2_0 x y bx hy kx
  have Y:hY 2 x y 2:=hY_mk 2 x y 2 hy (fun _=>A y hy) (fun q hq _=>A _ (rawF_sz hq)) (fun q hq _=>⟨zRF,zRG,zRF,2,A _ (rawF_sz hq),thE1_2 2 x (rawF q)⟩)
  refine R2 hs l1 l2 N Y ?_ (no_G2_0 x z w bx kx) (no_P2_0 x z w bx kx)
  by_cases kz:GOk z.val
  ·obtain⟨z,rfl,sz⟩:=Qfs kz
   exact no_B2_1 z x w sz bx bw kx
  ·exact no_B2_0 z x w bz kz
theorem three_true(p:Int)(x z w:Qbp)(y:Qdg):SCt 7 [.c (gxi p),.row (x.cells++z.cells++w.cells),.row (y.cells)] (.r gTt):=by
 show Law3 p x z w y
 by_cases hs:smHC x z w
 ·exact thr_L1 p x z w y hs
 by_cases l1:(Sz y.s1)>24
 ·exact thr_L2 p x z w y hs l1
 by_cases l2:(Sz y.s2)>24
 ·exact thr_L3 p x z w y hs l1 l2
 by_cases hp1:p=1
 ·subst hp1; exact three_p1 x z w y hs l1 l2
 by_cases hp2:p=2
 ·subst hp2; exact three_p2 x z w y hs l1 l2
 have hy:=yF_sz l1 l2
 have A:∀ y:Qdg,y.Sz→hA p x y zRF zRG zRF 2:=fun y hy=>no_AN p x y hy hp1 hp2
 have Y:hY p x y 2:=hY_mk p x y 2 hy (fun _=>A y hy) (fun q hq _=>A _ (rawF_sz hq)) (fun q hq _=>⟨zRF,zRG,zRF,2,A _ (rawF_sz hq),thE1_2 p x (rawF q)⟩)
 exact R2 hs l1 l2 (no_NN p x hp1 hp2) Y (no_BN p z x w hp1 hp2) (no_GN p x z w hp1 hp2) (no_PN p x z w hp1 hp2)
end Go.Proofs.YtmimficdpfmfgaaGreat
