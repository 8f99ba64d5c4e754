/- Laws. -/
import Derived.Test.YtcjjdooeogmdbaaGreatVbn
set_option linter.all false
set_option maxHeartbeats 4000000
set_option maxRecDepth 100000
namespace Go.Proofs.YtcjjdooeogmdbaaGreat
open Go.RowKit Tr Proofs.Tryz
open Classical
def Qrf(v:V5):QC:=(Qpd v)*(cj (Qlb v))
def Kam{v:V5}(B:v.O)(f1:¬(v.a.num.sign=0)):ZL (Qrf v) 1256385:=(Qcb (Qgd B f1) (Qhu (Qfr B))).mn
def Keo(v:V5):Rat:=((Qrf v).re)*(2:Rat)
def Klw{v:V5}(B:v.O)(f1:¬(v.a.num.sign=0)):RL (Keo v) 2512770:=(Qab ((Qrf v).re) (2:Rat) (Qbf (Qrf v) (Kam B f1)) (ri 2)).mn
def Qrg(v:V5):Rat:=(Keo v)+(Qdx v)
def Qmj{v:V5}(B:v.O)(f1:¬(v.a.num.sign=0)):RL (Qrg v) 5025541:=(Qaw (Keo v) (Qdx v) (Klw B f1) ((Qjg B).mn)).mn
def Kvs(v:V5):Rat:=(nm (Qlb v))*(2:Rat)
def Klx{v:V5}(B:v.O):RL (Kvs v) 5017274:=(Qab (nm (Qlb v)) (2:Rat) (Qal (Qfr B)) (ri 2)).mn
def Koz(v:V5):Rat:=(Qrg v)/(Kvs v)
def Kan{v:V5}(B:v.O)(f1:¬(v.a.num.sign=0))(hN:¬(nm (Qlb v)=0)):RL (Koz v) 10042815:=(Qbb (Qga hN (by decide)) (Qmj B f1) (Klx B)).mn
def Kvt(v:V5):QC:=(⟨((Qlb v).re)*(Koz v),((Qlb v).im)*(Koz v)⟩:QC)
def Kly{v:V5}(B:v.O)(f1:¬(v.a.num.sign=0))(hN:¬(nm (Qlb v)=0)):ZL (Kvt v) 10669974:=(Qbk (Qam (Qfr B).1 (Kan B f1 hN)) (Qam (Qfr B).2 (Kan B f1 hN))).mn
def Kpa(v:V5):QC:=(Qpd v)-(Kvt v)
def Qox{v:V5}(B:v.O)(f1:¬(v.a.num.sign=0))(hN:¬(nm (Qlb v)=0)):ZL (Kpa v) 10671008:=(Qbi (Qgd B f1) (Kly B f1 hN)).mn
def Ubu(v:V5):Rat:=(Qrg v)*(Qrg v)
def Klz{v:V5}(B:v.O)(f1:¬(v.a.num.sign=0)):RL (Ubu v) 10051082:=(Qab (Qrg v) (Qrg v) (Qmj B f1) (Qmj B f1)).mn
def Ubv(v:V5):Rat:=(nm (Qlb v))*(4:Rat)
def Kma{v:V5}(B:v.O):RL (Ubv v) 5017274:=(Qab (nm (Qlb v)) (4:Rat) (Qal (Qfr B)) (ri 4)).mn
def Kvu(v:V5):Rat:=(Ubu v)/(Ubv v)
def Kmb{v:V5}(B:v.O)(f1:¬(v.a.num.sign=0))(hN:¬(nm (Qlb v)=0)):RL (Kvu v) 15068356:=(Qbb (Qga hN (by decide)) (Klz B f1) (Kma B)).mn
def Ubw(v:V5):Rat:=(Keu v)-(Kvu v)
def Kmc{v:V5}(B:v.O)(f1:¬(v.a.num.sign=0))(hN:¬(nm (Qlb v)=0)):RL (Ubw v) 30136713:=(Qae (Keu v) (Kvu v) ((Qlt B f1).mn) (Kmb B f1 hN)).mn
def Qun(v:V5):Rat:=(Ubw v)/(nm (Qlb v))
def Qks{v:V5}(B:v.O)(f1:¬(v.a.num.sign=0))(hN:¬(nm (Qlb v)=0)):RL (Qun v) 32645350:=(Qbb hN (Kmc B f1 hN) (Qal (Qfr B))).mn
def Kpb(v:V5):QC:=(Qlb v)*(⟨0,1⟩:QC)
def Qry{v:V5}(B:v.O):ZL (Kpb v) 1254323:=(Qcb (Qfr B) (Qbj 0 1)).mn
noncomputable def Kpc(v:V5):QC:=(⟨((Kpb v).re)*(sqr (Qun v)),((Kpb v).im)*(sqr (Qun v))⟩:QC)
def Qoy{v:V5}(B:v.O)(f1:¬(v.a.num.sign=0))(hN:¬(nm (Qlb v)=0)):ZL (Kpc v) 33899674:=(Qbk (Qam (Qry B).1 (Qdr (Qks B f1 hN))) (Qam (Qry B).2 (Qdr (Qks B f1 hN)))).mn
noncomputable def Qrh(v:V5):QC:=(Kpa v)+(Kpc v)
def Qoz{v:V5}(B:v.O)(f1:¬(v.a.num.sign=0))(hN:¬(nm (Qlb v)=0)):ZL (Qrh v) 44570683:=(Qmq (Qox B f1 hN) (Qoy B f1 hN)).mn
noncomputable def Kep(v:V5):Rat:=(1:Rat)-(nm (Qrh v))
noncomputable def Kao(v:V5):QC:=(Kpa v)-(Kpc v)
def Ubx{v:V5}(B:v.O)(f1:¬(v.a.num.sign=0))(hN:¬(nm (Qlb v)=0)):ZL (Kao v) 44570683:=(Qbi (Qox B f1 hN) (Qoy B f1 hN)).mn
noncomputable def Qzc(v:V5):List GF:=[cF v.a,cF v.b,cF v.e,cF v.d,(Qah v.z).cells,(Qah (⟨0,1⟩:QC)).cells,(Qah (⟨0,0⟩:QC)).cells,cn v.z,[gr (1:Rat),gr (nm v.z),gr ((1:Rat)-(nm v.z)),gxi (((1:Rat)-(nm v.z)).num.sign),gr v.a,gr v.b,gr v.e,gr v.d,gr (0:Rat),gr (-1:Rat),gr (Qjw v),gxi ((Qjw v).num.sign),gr (1:Rat),gr (-v.z.re),gr v.z.im,gr (nm v.z),gr (Qbm v),gr (Qcu v),gr (Qcv v),gr (Qdx v),gxi v.a.num.sign,gxi ((Qbm v).num.sign)],cn (⟨(Qcu v),0⟩:QC),cn (⟨(Qcv v),0⟩:QC),cn (⟨0,1⟩:QC),cn (Kpk v),cn (Qlb v),[gr (nm (Qlb v))],cn (⟨v.b,0⟩:QC),cn (⟨v.e,0⟩:QC),cn ((⟨v.e,0⟩:QC)*(⟨0,1⟩:QC)),cn (Qdt v),cn ((⟨0,0⟩:QC)-(Qdt v)),[gr (v.a⁻¹)],cn (Qpd v),cn (cj (Qlb v)),cn (Qrf v),[gr ((Qrf v).re),gr ((Qrf v).im),gr (2:Rat),gr (Keo v),gr (Qrg v),gr (Kvs v),gr (Koz v)],cn (Kvt v),cn (Kpa v),[gr (Qao v.a v.b v.e v.d v.a v.b v.e v.d),gr (v.a*v.a),gr (Keu v),gr (Ubu v),gr (4:Rat),gr (Ubv v),gr (Kvu v),gr (Ubw v),gr (Qun v),gr (sqr (Qun v))],cn (Kpb v),cn (Kpc v),cn (Qrh v),[gr (nm (Qrh v)),gr (Kep v),gxi ((Kep v).num.sign)],(Qah (Qrh v)).cells,cn (Kao v),(Qah (Kao v)).cells,[ga]].flatten
structure Kcx(v:V5):Prop where
 B:v.O
 hz:¬((((1:Rat)-(nm v.z)).num.sign)<=0)
 f0:((Qjw v).num.sign)=0
 f1:¬(v.a.num.sign=0)
 f2:((Qbm v).num.sign)=0
 hN:¬(nm (Qlb v)=0)
 y0:Qac (Qrh v)
 y1:Qac (Kao v)
 hW:Qvm v.a v.b v.e v.d
noncomputable def Qzd(v:V5)(H:Kcx v):List (GC prog (Qzc v) true):=[Qfk eo45,gpi 0 1 20,gpi 0 0 28,gs (Qew v.z H.B.z) [yR 12 8] (.tup [sy [36,37],cTt]),gs (pnr 1) [lc 1,lc 1] (rS 38),gs (Qbw _ ((Qaa H.B.z).mn)) [sy [36,37]] (rS 39),gs (Qaz (1:Rat) _ (ri 1) ((Qal (Qaa H.B.z)).mn)) [cS 38,cS 39] (rS 40),gs (Qau ((1:Rat)-(nm v.z))) [cS 40] (rS 41),gs (Kmw v.a v.b v.e v.d (H.B.A.mn) (H.B.B.mn) (H.B.E.mn) (H.B.D.mn) H.hW) [.row (gL [0,6])] (.r (lc 0)),gs (Qct v.a H.B.a) [yQ 0] (rS 42),gs (Qct v.b H.B.b) [yQ 3] (rS 43),gs (Qct v.e H.B.e) [yQ 6] (rS 44),gs (Qct v.d H.B.d) [yQ 9] (rS 45),gs (pnr 0) [lc 0,lc 1] (rS 46),gs (pnr (-1)) [lc (-1),lc 1] (rS 47),gs (Qgx _ _ _ _ (1:Rat) (0:Rat) (0:Rat) (-1:Rat) (H.B.A.mn) (H.B.B.mn) (H.B.E.mn) (H.B.D.mn) (ri 1) (ri 0) (ri 0) (ri (-1))) [yR 42 4,.row [.sym 38,.sym 46,.sym 46,.sym 47]] (rS 48),gs (Qau (Qjw v)) [cS 48] (rS 49),gs (Qfc _ ((Qaa H.B.z).mn)) [sy [36,37]] (.r (yR 50 4)),
   gsG (Qln (1:Rat) (0:Rat) (0:Rat) (-1:Rat) v.a v.b v.e v.d (1:Rat) (-v.z.re) v.z.im (nm v.z) (ri 1) (ri 0) (ri 0) (ri (-1)) (H.B.A.mn) (H.B.B.mn) (H.B.E.mn) (H.B.D.mn) (ri 1) ((Qbq ((Qaa H.B.z).1)).mn) (((Qaa H.B.z).2).mn) ((Qal (Qaa H.B.z)).mn)) 22 ⟨flA [[.sym 38,.sym 46,.sym 46,.sym 47],Qba 42 4,Qba 50 4],89,none⟩ [.c (.sl 0 0 3 3)] (.r (yR 54 4)),gs (Qau v.a) [cS 42] (rS 58),gs (Qau (Qbm v)) [cS 54] (rS 59),gs (Qdw (Qcu v)) [cS 55] (.r (sy [60,61])),gs (Qdw (Qcv v)) [cS 56] (.r (sy [62,63])),gs (Qtf 0 1) [lc 0,lc 1] (.r (sy [64,65])),gs (Qex _ (⟨0,1⟩:QC) (Qbk ((Qiq H.B).upby 1) Qdi) (Qbj 0 1) (by decide)) [sy [62,63],sy [64,65]] (.r (sy [66,67])),gs (Qeo _ _ (Qbk ((Qip H.B).upby 1) Qdi) (Khv H.B) (by decide)) [sy [60,61],sy [66,67]] (.r (sy [68,69])),gs (Qbw _ ((Qfr H.B).mn)) [sy [68,69]] (rS 70),gs (Qdw v.b) [cS 43] (.r (sy [71,72])),gs (Qdw v.e) [cS 44] (.r (sy [73,74])),gs (Qex _ (⟨0,1⟩:QC) (Qbk (H.B.E.upby 1) Qdi) (Qbj 0 1) (by decide)) [sy [73,74],sy [64,65]] (.r (sy [75,76])),gs (Qeo _ _ (Qbk (H.B.B.upby 1) Qdi) (Qcb (Qbk (H.B.E.upby 1) Qdi) (Qbj 0 1)) (by decide)) [sy [71,72],sy [75,76]] (.r (sy [77,78])),gs (Kda _ ((Qbg H.B).mn)) [sy [77,78]] (.r (sy [79,80])),
   Qyh v.a (Qbo H.f1) H.B.A (by decide) 57 (.c (.sym 42)) (.sym 81),gs (Qcz _ _ ((Qxu (Qbg H.B)).mn) ((Qdn (Qbo H.f1) H.B.A).mn)) [sy [79,80],cS 81] (.r (sy [82,83])),gs (Qmr _ ((Qfr H.B).mn)) [sy [68,69]] (.r (sy [84,85])),gs (Qex _ _ (Qgd H.B H.f1) (Qhu (Qfr H.B)) (by decide)) [sy [82,83],sy [84,85]] (.r (sy [86,87])),gs (Qbs _ ((Kam H.B H.f1).mn)) [sy [86,87]] (.tup [cS 88,cS 89]),gs (pnr 2) [lc 2,lc 1] (rS 90),gs (Qan _ (2:Rat) ((Qbf (Qrf v) (Kam H.B H.f1)).mn) (ri 2)) [cS 88,cS 90] (rS 91),gs (Qfz _ _ ((Klw H.B H.f1).mn) ((Qjg H.B).mn)) [cS 91,cS 57] (rS 92),gs (Qan _ (2:Rat) ((Qal (Qfr H.B)).mn) (ri 2)) [cS 70,cS 90] (rS 93),gs (Qbe _ _ ((Qmj H.B H.f1).mn) ((Klx H.B).mn) (Qga H.hN (by decide))) [cS 92,cS 93] (rS 94),gs (Qcz _ _ ((Qfr H.B).mn) ((Kan H.B H.f1 H.hN).mn)) [sy [68,69],cS 94] (.r (sy [95,96])),gs (Qeo _ _ (Qgd H.B H.f1) (Kly H.B H.f1 H.hN) (by decide)) [sy [82,83],sy [95,96]] (.r (sy [97,98])),gs (Qgx _ _ _ _ _ _ _ _ (H.B.A.mn) (H.B.B.mn) (H.B.E.mn) (H.B.D.mn) (H.B.A.mn) (H.B.B.mn) (H.B.E.mn) (H.B.D.mn)) [yR 42 4,yR 42 4] (rS 99),gs (Qan _ _ (H.B.A.mn) (H.B.A.mn)) [cS 42,cS 42] (rS 100),gs (Qbe _ _ ((Qgn v.a v.b v.e v.d v.a v.b v.e v.d H.B.A H.B.B H.B.E H.B.D H.B.A H.B.B H.B.E H.B.D).mn) ((Qab v.a v.a H.B.A H.B.A).mn) (Qga (Qbo H.f1) (Qbo H.f1))) [cS 99,cS 100] (rS 101),gs (Qan _ _ ((Qmj H.B H.f1).mn) ((Qmj H.B H.f1).mn)) [cS 92,cS 92] (rS 102),gs (pnr 4) [lc 4,lc 1] (rS 103),gs (Qan _ (4:Rat) ((Qal (Qfr H.B)).mn) (ri 4)) [cS 70,cS 103] (rS 104),gs (Qbe _ _ ((Klz H.B H.f1).mn) ((Kma H.B).mn) (Qga H.hN (by decide))) [cS 102,cS 104] (rS 105),gs (Qaz _ _ ((Qlt H.B H.f1).mn) ((Kmb H.B H.f1 H.hN).mn)) [cS 101,cS 105] (rS 106),gs (Qbe _ _ ((Kmc H.B H.f1 H.hN).mn) ((Qal (Qfr H.B)).mn) H.hN) [cS 106,cS 70] (rS 107)]
def Uak(v:V5)(H:Kcx v)(h0:Qjx (Qun v))(h1:((Kep v).num.sign)>0):SCt 10 [gIi 2,.row (rG (⟨v.a,v.b⟩:QC)++rG (⟨v.e,v.d⟩:QC)),.row ((Qah v.z).cells)] (.tup [.row ((Qah (Qrh v)).cells),gIi 0]) :=
  Qbn (L := Qzc v) Qai Qap
     ((Qzd v H)++[gs (Qkw _ ((Qks H.B H.f1 H.hN).mn) h0) [cS 107] (.tup [cS 108,cTt]),gs (Qex _ (⟨0,1⟩:QC) (Qfr H.B) (Qbj 0 1) (by decide)) [sy [68,69],sy [64,65]] (.r (sy [109,110])),gs (Qcz _ _ ((Qry H.B).mn) ((Qdr (Qks H.B H.f1 H.hN)).mn)) [sy [109,110],cS 108] (.r (sy [111,112])),gs (Qkx _ _ (Qox H.B H.f1 H.hN) (Qoy H.B H.f1 H.hN) (by decide)) [sy [97,98],sy [111,112]] (.r (sy [113,114])),gs (Qbw _ ((Qoz H.B H.f1 H.hN).mn)) [sy [113,114]] (rS 115),gs (Qaz (1:Rat) _ (ri 1) ((Qal (Qoz H.B H.f1 H.hN)).mn)) [cS 38,cS 115] (rS 116),gs (Qau (Kep v)) [cS 116] (rS 117),gs (Qez _ ((Qoz H.B H.f1 H.hN).mn) H.y0) [sy [113,114]] (.tup [yR 118 8,lc 0])])
     [bI .leq 3 (.sym 41) (li 0) (((1:Rat)-(nm v.z)).num.sign) 0 false (by simp only[Qch];exact congrArg some (decide_eq_false H.hz)),bI .neq 3 (.sym 49) (li 0) ((Qjw v).num.sign) 0 false (by simp[Qch,H.f0]),bI .neq 3 (.sym 58) (li 0) v.a.num.sign 0 true (by simp[Qch,H.f1]),bI .neq 3 (.sym 59) (li 0) ((Qbm v).num.sign) 0 false (by simp[Qch,H.f2]),bI .eql 3 (.sym 58) (li 0) v.a.num.sign 0 false (by simp[Qch,H.f1]),gtY 3 (.sym 117) (li 0) ((Kep v).num.sign) 0 h1] [] Qku 1 5 func10 eo10 2000 [lc 2,.row (gL [0,6]),yR 12 8] (.tup [yR 118 8,lc 0])
def Ual(v:V5)(H:Kcx v)(h0:Qjx (Qun v))(h1:¬(((Kep v).num.sign)>0)):SCt 10 [gIi 2,.row (rG (⟨v.a,v.b⟩:QC)++rG (⟨v.e,v.d⟩:QC)),.row ((Qah v.z).cells)] (.tup [.row ((Qah (Kao v)).cells),gIi 0]) :=
  Qbn (L := Qzc v) Qai Qap
     ((Qzd v H)++[gs (Qkw _ ((Qks H.B H.f1 H.hN).mn) h0) [cS 107] (.tup [cS 108,cTt]),gs (Qex _ (⟨0,1⟩:QC) (Qfr H.B) (Qbj 0 1) (by decide)) [sy [68,69],sy [64,65]] (.r (sy [109,110])),gs (Qcz _ _ ((Qry H.B).mn) ((Qdr (Qks H.B H.f1 H.hN)).mn)) [sy [109,110],cS 108] (.r (sy [111,112])),gs (Qkx _ _ (Qox H.B H.f1 H.hN) (Qoy H.B H.f1 H.hN) (by decide)) [sy [97,98],sy [111,112]] (.r (sy [113,114])),gs (Qbw _ ((Qoz H.B H.f1 H.hN).mn)) [sy [113,114]] (rS 115),gs (Qaz (1:Rat) _ (ri 1) ((Qal (Qoz H.B H.f1 H.hN)).mn)) [cS 38,cS 115] (rS 116),gs (Qau (Kep v)) [cS 116] (rS 117),gs (Qeo _ _ (Qox H.B H.f1 H.hN) (Qoy H.B H.f1 H.hN) (by decide)) [sy [97,98],sy [111,112]] (.r (sy [126,127])),gs (Qez _ ((Ubx H.B H.f1 H.hN).mn) H.y1) [sy [126,127]] (.tup [yR 128 8,lc 0])])
     [bI .leq 3 (.sym 41) (li 0) (((1:Rat)-(nm v.z)).num.sign) 0 false (by simp only[Qch];exact congrArg some (decide_eq_false H.hz)),bI .neq 3 (.sym 49) (li 0) ((Qjw v).num.sign) 0 false (by simp[Qch,H.f0]),bI .neq 3 (.sym 58) (li 0) v.a.num.sign 0 true (by simp[Qch,H.f1]),bI .neq 3 (.sym 59) (li 0) ((Qbm v).num.sign) 0 false (by simp[Qch,H.f2]),bI .eql 3 (.sym 58) (li 0) v.a.num.sign 0 false (by simp[Qch,H.f1]),gtN 3 (.sym 117) (li 0) ((Kep v).num.sign) 0 h1] [] Qku 1 5 func10 eo10 2000 [lc 2,.row (gL [0,6]),yR 12 8] (.tup [yR 128 8,lc 0])
def Uam(v:V5)(H:Kcx v)(h0:¬(Qjx (Qun v))):SCt 10 [gIi 2,.row (rG (⟨v.a,v.b⟩:QC)++rG (⟨v.e,v.d⟩:QC)),.row ((Qah v.z).cells)] (.tup [.row (zGG),gIi 7]) :=
  Qbn (L := Qzc v) Qai Qap
     ((Qzd v H)++[gs (Qqa _ ((Qks H.B H.f1 H.hN).mn) h0) [cS 107] (.tup [cS 136,cFf])])
     [bI .leq 3 (.sym 41) (li 0) (((1:Rat)-(nm v.z)).num.sign) 0 false (by simp only[Qch];exact congrArg some (decide_eq_false H.hz)),bI .neq 3 (.sym 49) (li 0) ((Qjw v).num.sign) 0 false (by simp[Qch,H.f0]),bI .neq 3 (.sym 58) (li 0) v.a.num.sign 0 true (by simp[Qch,H.f1]),bI .neq 3 (.sym 59) (li 0) ((Qbm v).num.sign) 0 false (by simp[Qch,H.f2]),bI .eql 3 (.sym 58) (li 0) v.a.num.sign 0 false (by simp[Qch,H.f1])] [] Qku 1 5 func10 eo10 2000 [lc 2,.row (gL [0,6]),yR 12 8] (.tup [.row (zGA),lc 7])
def Uvt(v:V5):Rat:=((Qbm v)*v.a)-(v.a*(Qbm v))
def Qvh(v:V5):Rat:=((Qcu v)*v.a)-(v.b*(Qbm v))
def Kmd{v:V5}(B:v.O):RL (Qvh v) 836201:=(Qae ((Qcu v)*v.a) (v.b*(Qbm v)) (Qab (Qcu v) v.a (Qip B) (B.A.mn)) ((Qab v.b (Qbm v) (B.B.mn) (Qdm B)).mn)).mn
def Qvi(v:V5):Rat:=((Qcv v)*v.a)-(v.e*(Qbm v))
def Kme{v:V5}(B:v.O):RL (Qvi v) 836201:=(Qae ((Qcv v)*v.a) (v.e*(Qbm v)) (Qab (Qcv v) v.a (Qiq B) (B.A.mn)) ((Qab v.e (Qbm v) (B.E.mn) (Qdm B)).mn)).mn
def Keq(v:V5):Rat:=((Qdx v)*v.a)-(v.d*(Qbm v))
def Kmf{v:V5}(B:v.O):RL (Keq v) 696801:=(Qae ((Qdx v)*v.a) (v.d*(Qbm v)) (Qab (Qdx v) v.a (Qjg B) (B.A.mn)) (Qab v.d (Qbm v) (B.D.mn) (Qdm B))).mn
def Ker(v:V5):QC:=(⟨(Qvi v),0⟩:QC)*(⟨0,1⟩:QC)
def Kmg{v:V5}(B:v.O):ZL (Ker v) 1672409:=(Qcb (Qbk ((Kme B).upby 1) Qdi) (Qbj 0 1)).mn
def Qgu(v:V5):QC:=(⟨(Qvh v),0⟩:QC)-(Ker v)
def Qeu{v:V5}(B:v.O):ZL (Qgu v) 2508612:=(Qbi (Qbk ((Kmd B).upby 1) Qdi) (Kmg B)).mn
def Qri(v:V5):QC:=(Qpd v)*(cj (Qgu v))
def Kap{v:V5}(B:v.O)(f1:¬(v.a.num.sign=0)):ZL (Qri v) 5019291:=(Qcb (Qgd B f1) (Qhu (Qeu B))).mn
def Kes(v:V5):Rat:=((Qri v).re)*(2:Rat)
def Kmh{v:V5}(B:v.O)(f1:¬(v.a.num.sign=0)):RL (Kes v) 10038582:=(Qab ((Qri v).re) (2:Rat) (Qbf (Qri v) (Kap B f1)) (ri 2)).mn
def Qrj(v:V5):Rat:=(Kes v)+(Keq v)
def Qmk{v:V5}(B:v.O)(f1:¬(v.a.num.sign=0)):RL (Qrj v) 20077165:=(Qaw (Kes v) (Keq v) (Kmh B f1) ((Kmf B).mn)).mn
def Kvv(v:V5):Rat:=(nm (Qgu v))*(2:Rat)
def Kmi{v:V5}(B:v.O):RL (Kvv v) 20068898:=(Qab (nm (Qgu v)) (2:Rat) (Qal (Qeu B)) (ri 2)).mn
def Kpd(v:V5):Rat:=(Qrj v)/(Kvv v)
def Kaq{v:V5}(B:v.O)(f1:¬(v.a.num.sign=0))(hN:¬(nm (Qgu v)=0)):RL (Kpd v) 40146063:=(Qbb (Qga hN (by decide)) (Qmk B f1) (Kmi B)).mn
def Kvw(v:V5):QC:=(⟨((Qgu v).re)*(Kpd v),((Qgu v).im)*(Kpd v)⟩:QC)
def Kmj{v:V5}(B:v.O)(f1:¬(v.a.num.sign=0))(hN:¬(nm (Qgu v)=0)):ZL (Kvw v) 42654675:=(Qbk (Qam (Qeu B).1 (Kaq B f1 hN)) (Qam (Qeu B).2 (Kaq B f1 hN))).mn
def Kpe(v:V5):QC:=(Qpd v)-(Kvw v)
def Qpa{v:V5}(B:v.O)(f1:¬(v.a.num.sign=0))(hN:¬(nm (Qgu v)=0)):ZL (Kpe v) 42655709:=(Qbi (Qgd B f1) (Kmj B f1 hN)).mn
def Uby(v:V5):Rat:=(Qrj v)*(Qrj v)
def Kmk{v:V5}(B:v.O)(f1:¬(v.a.num.sign=0)):RL (Uby v) 40154330:=(Qab (Qrj v) (Qrj v) (Qmk B f1) (Qmk B f1)).mn
def Ubz(v:V5):Rat:=(nm (Qgu v))*(4:Rat)
def Kml{v:V5}(B:v.O):RL (Ubz v) 20068898:=(Qab (nm (Qgu v)) (4:Rat) (Qal (Qeu B)) (ri 4)).mn
def Kvx(v:V5):Rat:=(Uby v)/(Ubz v)
def Kmm{v:V5}(B:v.O)(f1:¬(v.a.num.sign=0))(hN:¬(nm (Qgu v)=0)):RL (Kvx v) 60223228:=(Qbb (Qga hN (by decide)) (Kmk B f1) (Kml B)).mn
def Uca(v:V5):Rat:=(Keu v)-(Kvx v)
def Kmn{v:V5}(B:v.O)(f1:¬(v.a.num.sign=0))(hN:¬(nm (Qgu v)=0)):RL (Uca v) 120446457:=(Qae (Keu v) (Kvx v) ((Qlt B f1).mn) (Kmm B f1 hN)).mn
def Qup(v:V5):Rat:=(Uca v)/(nm (Qgu v))
def Qkt{v:V5}(B:v.O)(f1:¬(v.a.num.sign=0))(hN:¬(nm (Qgu v)=0)):RL (Qup v) 130480906:=(Qbb hN (Kmn B f1 hN) (Qal (Qeu B))).mn
def Kpf(v:V5):QC:=(Qgu v)*(⟨0,1⟩:QC)
def Qrz{v:V5}(B:v.O):ZL (Kpf v) 5017229:=(Qcb (Qeu B) (Qbj 0 1)).mn
noncomputable def Kpg(v:V5):QC:=(⟨((Kpf v).re)*(sqr (Qup v)),((Kpf v).im)*(sqr (Qup v))⟩:QC)
def Qpb{v:V5}(B:v.O)(f1:¬(v.a.num.sign=0))(hN:¬(nm (Qgu v)=0)):ZL (Kpg v) 135498136:=(Qbk (Qam (Qrz B).1 (Qdr (Qkt B f1 hN))) (Qam (Qrz B).2 (Qdr (Qkt B f1 hN)))).mn
noncomputable def Qrk(v:V5):QC:=(Kpe v)+(Kpg v)
def Qpc{v:V5}(B:v.O)(f1:¬(v.a.num.sign=0))(hN:¬(nm (Qgu v)=0)):ZL (Qrk v) 178153846:=(Qmq (Qpa B f1 hN) (Qpb B f1 hN)).mn
noncomputable def Ket(v:V5):Rat:=(1:Rat)-(nm (Qrk v))
noncomputable def Kar(v:V5):QC:=(Kpe v)-(Kpg v)
def Ucb{v:V5}(B:v.O)(f1:¬(v.a.num.sign=0))(hN:¬(nm (Qgu v)=0)):ZL (Kar v) 178153846:=(Qbi (Qpa B f1 hN) (Qpb B f1 hN)).mn
noncomputable def Qzg(v:V5):List GF:=[cF v.a,cF v.b,cF v.e,cF v.d,(Qah v.z).cells,(Qah (⟨0,1⟩:QC)).cells,(Qah (⟨0,0⟩:QC)).cells,cn v.z,[gr (1:Rat),gr (nm v.z),gr ((1:Rat)-(nm v.z)),gxi (((1:Rat)-(nm v.z)).num.sign),gr v.a,gr v.b,gr v.e,gr v.d,gr (0:Rat),gr (-1:Rat),gr (Qjw v),gxi ((Qjw v).num.sign),gr (1:Rat),gr (-v.z.re),gr v.z.im,gr (nm v.z),gr (Qbm v),gr (Qcu v),gr (Qcv v),gr (Qdx v),gxi v.a.num.sign,gxi ((Qbm v).num.sign),gr ((Qbm v)*v.a),gr (v.a*(Qbm v)),gr (Uvt v),gr ((Qcu v)*v.a),gr (v.b*(Qbm v)),gr (Qvh v),gr ((Qcv v)*v.a),gr (v.e*(Qbm v)),gr (Qvi v),gr ((Qdx v)*v.a),gr (v.d*(Qbm v)),gr (Keq v)],cn (⟨(Qvh v),0⟩:QC),cn (⟨(Qvi v),0⟩:QC),cn (⟨0,1⟩:QC),cn (Ker v),cn (Qgu v),[gr (nm (Qgu v))],cn (⟨v.b,0⟩:QC),cn (⟨v.e,0⟩:QC),cn ((⟨v.e,0⟩:QC)*(⟨0,1⟩:QC)),cn (Qdt v),cn ((⟨0,0⟩:QC)-(Qdt v)),[gr (v.a⁻¹)],cn (Qpd v),cn (cj (Qgu v)),cn (Qri v),[gr ((Qri v).re),gr ((Qri v).im),gr (2:Rat),gr (Kes v),gr (Qrj v),gr (Kvv v),gr (Kpd v)],cn (Kvw v),cn (Kpe v),[gr (Qao v.a v.b v.e v.d v.a v.b v.e v.d),gr (v.a*v.a),gr (Keu v),gr (Uby v),gr (4:Rat),gr (Ubz v),gr (Kvx v),gr (Uca v),gr (Qup v),gr (sqr (Qup v))],cn (Kpf v),cn (Kpg v),cn (Qrk v),[gr (nm (Qrk v)),gr (Ket v),gxi ((Ket v).num.sign)],(Qah (Qrk v)).cells,cn (Kar v),(Qah (Kar v)).cells,[ga]].flatten
structure Kcz(v:V5):Prop where
 B:v.O
 hz:¬((((1:Rat)-(nm v.z)).num.sign)<=0)
 f0:((Qjw v).num.sign)=0
 f1:¬(v.a.num.sign=0)
 f2:¬(((Qbm v).num.sign)=0)
 hN:¬(nm (Qgu v)=0)
 y0:Qac (Qrk v)
 y1:Qac (Kar v)
 hW:Qvm v.a v.b v.e v.d
noncomputable def Qzh(v:V5)(H:Kcz v):List (GC prog (Qzg v) true):=[Qfk eo45,gpi 0 1 20,gpi 0 0 28,gs (Qew v.z H.B.z) [yR 12 8] (.tup [sy [36,37],cTt]),gs (pnr 1) [lc 1,lc 1] (rS 38),gs (Qbw _ ((Qaa H.B.z).mn)) [sy [36,37]] (rS 39),gs (Qaz (1:Rat) _ (ri 1) ((Qal (Qaa H.B.z)).mn)) [cS 38,cS 39] (rS 40),gs (Qau ((1:Rat)-(nm v.z))) [cS 40] (rS 41),gs (Kmw v.a v.b v.e v.d (H.B.A.mn) (H.B.B.mn) (H.B.E.mn) (H.B.D.mn) H.hW) [.row (gL [0,6])] (.r (lc 0)),gs (Qct v.a H.B.a) [yQ 0] (rS 42),gs (Qct v.b H.B.b) [yQ 3] (rS 43),gs (Qct v.e H.B.e) [yQ 6] (rS 44),gs (Qct v.d H.B.d) [yQ 9] (rS 45),gs (pnr 0) [lc 0,lc 1] (rS 46),gs (pnr (-1)) [lc (-1),lc 1] (rS 47),gs (Qgx _ _ _ _ (1:Rat) (0:Rat) (0:Rat) (-1:Rat) (H.B.A.mn) (H.B.B.mn) (H.B.E.mn) (H.B.D.mn) (ri 1) (ri 0) (ri 0) (ri (-1))) [yR 42 4,.row [.sym 38,.sym 46,.sym 46,.sym 47]] (rS 48),gs (Qau (Qjw v)) [cS 48] (rS 49),gs (Qfc _ ((Qaa H.B.z).mn)) [sy [36,37]] (.r (yR 50 4)),
   gsG (Qln (1:Rat) (0:Rat) (0:Rat) (-1:Rat) v.a v.b v.e v.d (1:Rat) (-v.z.re) v.z.im (nm v.z) (ri 1) (ri 0) (ri 0) (ri (-1)) (H.B.A.mn) (H.B.B.mn) (H.B.E.mn) (H.B.D.mn) (ri 1) ((Qbq ((Qaa H.B.z).1)).mn) (((Qaa H.B.z).2).mn) ((Qal (Qaa H.B.z)).mn)) 22 ⟨flA [[.sym 38,.sym 46,.sym 46,.sym 47],Qba 42 4,Qba 50 4],89,none⟩ [.c (.sl 0 0 3 3)] (.r (yR 54 4)),gs (Qau v.a) [cS 42] (rS 58),gs (Qau (Qbm v)) [cS 54] (rS 59),gs (Qan _ _ ((Qdm H.B).mn) (H.B.A.mn)) [cS 54,cS 42] (rS 60),gs (Qan _ _ (H.B.A.mn) ((Qdm H.B).mn)) [cS 42,cS 54] (rS 61),gs (Qaz _ _ ((Qab (Qbm v) v.a (Qdm H.B) (H.B.A.mn)).mn) ((Qab v.a (Qbm v) (H.B.A.mn) (Qdm H.B)).mn)) [cS 60,cS 61] (rS 62),gs (Qan _ _ ((Qip H.B).mn) (H.B.A.mn)) [cS 55,cS 42] (rS 63),gs (Qan _ _ (H.B.B.mn) ((Qdm H.B).mn)) [cS 43,cS 54] (rS 64),gs (Qaz _ _ ((Qab (Qcu v) v.a (Qip H.B) (H.B.A.mn)).mn) ((Qab v.b (Qbm v) (H.B.B.mn) (Qdm H.B)).mn)) [cS 63,cS 64] (rS 65),gs (Qan _ _ ((Qiq H.B).mn) (H.B.A.mn)) [cS 56,cS 42] (rS 66),gs (Qan _ _ (H.B.E.mn) ((Qdm H.B).mn)) [cS 44,cS 54] (rS 67),gs (Qaz _ _ ((Qab (Qcv v) v.a (Qiq H.B) (H.B.A.mn)).mn) ((Qab v.e (Qbm v) (H.B.E.mn) (Qdm H.B)).mn)) [cS 66,cS 67] (rS 68),gs (Qan _ _ ((Qjg H.B).mn) (H.B.A.mn)) [cS 57,cS 42] (rS 69),gs (Qan _ _ (H.B.D.mn) ((Qdm H.B).mn)) [cS 45,cS 54] (rS 70),gs (Qaz _ _ ((Qab (Qdx v) v.a (Qjg H.B) (H.B.A.mn)).mn) ((Qab v.d (Qbm v) (H.B.D.mn) (Qdm H.B)).mn)) [cS 69,cS 70] (rS 71),gs (Qdw (Qvh v)) [cS 65] (.r (sy [72,73])),gs (Qdw (Qvi v)) [cS 68] (.r (sy [74,75])),gs (Qtf 0 1) [lc 0,lc 1] (.r (sy [76,77])),gs (Qex _ (⟨0,1⟩:QC) (Qbk ((Kme H.B).upby 1) Qdi) (Qbj 0 1) (by decide)) [sy [74,75],sy [76,77]] (.r (sy [78,79])),gs (Qeo _ _ (Qbk ((Kmd H.B).upby 1) Qdi) (Kmg H.B) (by decide)) [sy [72,73],sy [78,79]] (.r (sy [80,81])),gs (Qbw _ ((Qeu H.B).mn)) [sy [80,81]] (rS 82),gs (Qdw v.b) [cS 43] (.r (sy [83,84])),gs (Qdw v.e) [cS 44] (.r (sy [85,86])),gs (Qex _ (⟨0,1⟩:QC) (Qbk (H.B.E.upby 1) Qdi) (Qbj 0 1) (by decide)) [sy [85,86],sy [76,77]] (.r (sy [87,88])),gs (Qeo _ _ (Qbk (H.B.B.upby 1) Qdi) (Qcb (Qbk (H.B.E.upby 1) Qdi) (Qbj 0 1)) (by decide)) [sy [83,84],sy [87,88]] (.r (sy [89,90])),gs (Kda _ ((Qbg H.B).mn)) [sy [89,90]] (.r (sy [91,92])),
   Qyh v.a (Qbo H.f1) H.B.A (by decide) 57 (.c (.sym 42)) (.sym 93),gs (Qcz _ _ ((Qxu (Qbg H.B)).mn) ((Qdn (Qbo H.f1) H.B.A).mn)) [sy [91,92],cS 93] (.r (sy [94,95])),gs (Qmr _ ((Qeu H.B).mn)) [sy [80,81]] (.r (sy [96,97])),gs (Qex _ _ (Qgd H.B H.f1) (Qhu (Qeu H.B)) (by decide)) [sy [94,95],sy [96,97]] (.r (sy [98,99])),gs (Qbs _ ((Kap H.B H.f1).mn)) [sy [98,99]] (.tup [cS 100,cS 101]),gs (pnr 2) [lc 2,lc 1] (rS 102),gs (Qan _ (2:Rat) ((Qbf (Qri v) (Kap H.B H.f1)).mn) (ri 2)) [cS 100,cS 102] (rS 103),gs (Qfz _ _ ((Kmh H.B H.f1).mn) ((Kmf H.B).mn)) [cS 103,cS 71] (rS 104),gs (Qan _ (2:Rat) ((Qal (Qeu H.B)).mn) (ri 2)) [cS 82,cS 102] (rS 105),gs (Qbe _ _ ((Qmk H.B H.f1).mn) ((Kmi H.B).mn) (Qga H.hN (by decide))) [cS 104,cS 105] (rS 106),gs (Qcz _ _ ((Qeu H.B).mn) ((Kaq H.B H.f1 H.hN).mn)) [sy [80,81],cS 106] (.r (sy [107,108])),gs (Qeo _ _ (Qgd H.B H.f1) (Kmj H.B H.f1 H.hN) (by decide)) [sy [94,95],sy [107,108]] (.r (sy [109,110])),gs (Qgx _ _ _ _ _ _ _ _ (H.B.A.mn) (H.B.B.mn) (H.B.E.mn) (H.B.D.mn) (H.B.A.mn) (H.B.B.mn) (H.B.E.mn) (H.B.D.mn)) [yR 42 4,yR 42 4] (rS 111),gs (Qan _ _ (H.B.A.mn) (H.B.A.mn)) [cS 42,cS 42] (rS 112),gs (Qbe _ _ ((Qgn v.a v.b v.e v.d v.a v.b v.e v.d H.B.A H.B.B H.B.E H.B.D H.B.A H.B.B H.B.E H.B.D).mn) ((Qab v.a v.a H.B.A H.B.A).mn) (Qga (Qbo H.f1) (Qbo H.f1))) [cS 111,cS 112] (rS 113),gs (Qan _ _ ((Qmk H.B H.f1).mn) ((Qmk H.B H.f1).mn)) [cS 104,cS 104] (rS 114),gs (pnr 4) [lc 4,lc 1] (rS 115),gs (Qan _ (4:Rat) ((Qal (Qeu H.B)).mn) (ri 4)) [cS 82,cS 115] (rS 116),gs (Qbe _ _ ((Kmk H.B H.f1).mn) ((Kml H.B).mn) (Qga H.hN (by decide))) [cS 114,cS 116] (rS 117),gs (Qaz _ _ ((Qlt H.B H.f1).mn) ((Kmm H.B H.f1 H.hN).mn)) [cS 113,cS 117] (rS 118),gs (Qbe _ _ ((Kmn H.B H.f1 H.hN).mn) ((Qal (Qeu H.B)).mn) H.hN) [cS 118,cS 82] (rS 119)]
def Uaq(v:V5)(H:Kcz v)(h0:Qjx (Qup v))(h1:((Ket v).num.sign)>0):SCt 10 [gIi 2,.row (rG (⟨v.a,v.b⟩:QC)++rG (⟨v.e,v.d⟩:QC)),.row ((Qah v.z).cells)] (.tup [.row ((Qah (Qrk v)).cells),gIi 0]) :=
  Qbn (L := Qzg v) Qai Qap
     ((Qzh v H)++[gs (Qkw _ ((Qkt H.B H.f1 H.hN).mn) h0) [cS 119] (.tup [cS 120,cTt]),gs (Qex _ (⟨0,1⟩:QC) (Qeu H.B) (Qbj 0 1) (by decide)) [sy [80,81],sy [76,77]] (.r (sy [121,122])),gs (Qcz _ _ ((Qrz H.B).mn) ((Qdr (Qkt H.B H.f1 H.hN)).mn)) [sy [121,122],cS 120] (.r (sy [123,124])),gs (Qkx _ _ (Qpa H.B H.f1 H.hN) (Qpb H.B H.f1 H.hN) (by decide)) [sy [109,110],sy [123,124]] (.r (sy [125,126])),gs (Qbw _ ((Qpc H.B H.f1 H.hN).mn)) [sy [125,126]] (rS 127),gs (Qaz (1:Rat) _ (ri 1) ((Qal (Qpc H.B H.f1 H.hN)).mn)) [cS 38,cS 127] (rS 128),gs (Qau (Ket v)) [cS 128] (rS 129),gs (Qez _ ((Qpc H.B H.f1 H.hN).mn) H.y0) [sy [125,126]] (.tup [yR 130 8,lc 0])])
     [bI .leq 3 (.sym 41) (li 0) (((1:Rat)-(nm v.z)).num.sign) 0 false (by simp only[Qch];exact congrArg some (decide_eq_false H.hz)),bI .neq 3 (.sym 49) (li 0) ((Qjw v).num.sign) 0 false (by simp[Qch,H.f0]),bI .neq 3 (.sym 58) (li 0) v.a.num.sign 0 true (by simp[Qch,H.f1]),bI .neq 3 (.sym 59) (li 0) ((Qbm v).num.sign) 0 true (by simp[Qch,H.f2]),bI .eql 3 (.sym 58) (li 0) v.a.num.sign 0 false (by simp[Qch,H.f1]),gtY 3 (.sym 129) (li 0) ((Ket v).num.sign) 0 h1] [] Qku 1 5 func10 eo10 2000 [lc 2,.row (gL [0,6]),yR 12 8] (.tup [yR 130 8,lc 0])
def Uar(v:V5)(H:Kcz v)(h0:Qjx (Qup v))(h1:¬(((Ket v).num.sign)>0)):SCt 10 [gIi 2,.row (rG (⟨v.a,v.b⟩:QC)++rG (⟨v.e,v.d⟩:QC)),.row ((Qah v.z).cells)] (.tup [.row ((Qah (Kar v)).cells),gIi 0]) :=
  Qbn (L := Qzg v) Qai Qap
     ((Qzh v H)++[gs (Qkw _ ((Qkt H.B H.f1 H.hN).mn) h0) [cS 119] (.tup [cS 120,cTt]),gs (Qex _ (⟨0,1⟩:QC) (Qeu H.B) (Qbj 0 1) (by decide)) [sy [80,81],sy [76,77]] (.r (sy [121,122])),gs (Qcz _ _ ((Qrz H.B).mn) ((Qdr (Qkt H.B H.f1 H.hN)).mn)) [sy [121,122],cS 120] (.r (sy [123,124])),gs (Qkx _ _ (Qpa H.B H.f1 H.hN) (Qpb H.B H.f1 H.hN) (by decide)) [sy [109,110],sy [123,124]] (.r (sy [125,126])),gs (Qbw _ ((Qpc H.B H.f1 H.hN).mn)) [sy [125,126]] (rS 127),gs (Qaz (1:Rat) _ (ri 1) ((Qal (Qpc H.B H.f1 H.hN)).mn)) [cS 38,cS 127] (rS 128),gs (Qau (Ket v)) [cS 128] (rS 129),gs (Qeo _ _ (Qpa H.B H.f1 H.hN) (Qpb H.B H.f1 H.hN) (by decide)) [sy [109,110],sy [123,124]] (.r (sy [138,139])),gs (Qez _ ((Ucb H.B H.f1 H.hN).mn) H.y1) [sy [138,139]] (.tup [yR 140 8,lc 0])])
     [bI .leq 3 (.sym 41) (li 0) (((1:Rat)-(nm v.z)).num.sign) 0 false (by simp only[Qch];exact congrArg some (decide_eq_false H.hz)),bI .neq 3 (.sym 49) (li 0) ((Qjw v).num.sign) 0 false (by simp[Qch,H.f0]),bI .neq 3 (.sym 58) (li 0) v.a.num.sign 0 true (by simp[Qch,H.f1]),bI .neq 3 (.sym 59) (li 0) ((Qbm v).num.sign) 0 true (by simp[Qch,H.f2]),bI .eql 3 (.sym 58) (li 0) v.a.num.sign 0 false (by simp[Qch,H.f1]),gtN 3 (.sym 129) (li 0) ((Ket v).num.sign) 0 h1] [] Qku 1 5 func10 eo10 2000 [lc 2,.row (gL [0,6]),yR 12 8] (.tup [yR 140 8,lc 0])
def Uas(v:V5)(H:Kcz v)(h0:¬(Qjx (Qup v))):SCt 10 [gIi 2,.row (rG (⟨v.a,v.b⟩:QC)++rG (⟨v.e,v.d⟩:QC)),.row ((Qah v.z).cells)] (.tup [.row (zGG),gIi 7]) :=
  Qbn (L := Qzg v) Qai Qap
     ((Qzh v H)++[gs (Qqa _ ((Qkt H.B H.f1 H.hN).mn) h0) [cS 119] (.tup [cS 148,cFf])])
     [bI .leq 3 (.sym 41) (li 0) (((1:Rat)-(nm v.z)).num.sign) 0 false (by simp only[Qch];exact congrArg some (decide_eq_false H.hz)),bI .neq 3 (.sym 49) (li 0) ((Qjw v).num.sign) 0 false (by simp[Qch,H.f0]),bI .neq 3 (.sym 58) (li 0) v.a.num.sign 0 true (by simp[Qch,H.f1]),bI .neq 3 (.sym 59) (li 0) ((Qbm v).num.sign) 0 true (by simp[Qch,H.f2]),bI .eql 3 (.sym 58) (li 0) v.a.num.sign 0 false (by simp[Qch,H.f1])] [] Qku 1 5 func10 eo10 2000 [lc 2,.row (gL [0,6]),yR 12 8] (.tup [.row (zGA),lc 7])
def Ugr(v:V5):List GF:=[cF v.a,cF v.b,cF v.e,cF v.d,(Qah v.z).cells,(Qah (⟨0,1⟩:QC)).cells,(Qah (⟨0,0⟩:QC)).cells,cn v.z,[gr (1:Rat),gr (nm v.z),gr ((1:Rat)-(nm v.z)),gxi (((1:Rat)-(nm v.z)).num.sign),gr v.a,gr v.b,gr v.e,gr v.d,gr (0:Rat),gr (-1:Rat),gr (Qjw v),gxi ((Qjw v).num.sign),gr (1:Rat),gr (-v.z.re),gr v.z.im,gr (nm v.z),gr (Qbm v),gr (Qcu v),gr (Qcv v),gr (Qdx v),gxi v.a.num.sign],cn (⟨v.b,0⟩:QC),cn (⟨v.e,0⟩:QC),cn (⟨0,1⟩:QC),cn ((⟨v.e,0⟩:QC)*(⟨0,1⟩:QC)),cn (Qdt v),[gr (nm (Qdt v)),gxi ((Qbm v).num.sign)],cn (⟨0,0⟩:QC),(Qah (⟨0,0⟩:QC)).cells].flatten
structure Unn(v:V5):Prop where
 B:v.O
 hz:¬((((1:Rat)-(nm v.z)).num.sign)<=0)
 f0:((Qjw v).num.sign)=0
 f1:v.a.num.sign=0
 f2:((Qbm v).num.sign)=0
 hW:Qvm v.a v.b v.e v.d
def Uat(v:V5)(H:Unn v):SCt 10 [gIi 2,.row (rG (⟨v.a,v.b⟩:QC)++rG (⟨v.e,v.d⟩:QC)),.row ((Qah v.z).cells)] (.tup [.row ((Qah (⟨0,0⟩:QC)).cells),gIi 0]) :=
  Qbn (L := Ugr v) Qai Qap
     [Qfk eo45,gpi 0 1 20,gpi 0 0 28,gs (Qew v.z H.B.z) [yR 12 8] (.tup [sy [36,37],cTt]),gs (pnr 1) [lc 1,lc 1] (rS 38),gs (Qbw _ ((Qaa H.B.z).mn)) [sy [36,37]] (rS 39),gs (Qaz (1:Rat) _ (ri 1) ((Qal (Qaa H.B.z)).mn)) [cS 38,cS 39] (rS 40),gs (Qau ((1:Rat)-(nm v.z))) [cS 40] (rS 41),gs (Kmw v.a v.b v.e v.d (H.B.A.mn) (H.B.B.mn) (H.B.E.mn) (H.B.D.mn) H.hW) [.row (gL [0,6])] (.r (lc 0)),gs (Qct v.a H.B.a) [yQ 0] (rS 42),gs (Qct v.b H.B.b) [yQ 3] (rS 43),gs (Qct v.e H.B.e) [yQ 6] (rS 44),gs (Qct v.d H.B.d) [yQ 9] (rS 45),gs (pnr 0) [lc 0,lc 1] (rS 46),gs (pnr (-1)) [lc (-1),lc 1] (rS 47),gs (Qgx _ _ _ _ (1:Rat) (0:Rat) (0:Rat) (-1:Rat) (H.B.A.mn) (H.B.B.mn) (H.B.E.mn) (H.B.D.mn) (ri 1) (ri 0) (ri 0) (ri (-1))) [yR 42 4,.row [.sym 38,.sym 46,.sym 46,.sym 47]] (rS 48),gs (Qau (Qjw v)) [cS 48] (rS 49),gs (Qfc _ ((Qaa H.B.z).mn)) [sy [36,37]] (.r (yR 50 4)),
      gsG (Qln (1:Rat) (0:Rat) (0:Rat) (-1:Rat) v.a v.b v.e v.d (1:Rat) (-v.z.re) v.z.im (nm v.z) (ri 1) (ri 0) (ri 0) (ri (-1)) (H.B.A.mn) (H.B.B.mn) (H.B.E.mn) (H.B.D.mn) (ri 1) ((Qbq ((Qaa H.B.z).1)).mn) (((Qaa H.B.z).2).mn) ((Qal (Qaa H.B.z)).mn)) 22 ⟨flA [[.sym 38,.sym 46,.sym 46,.sym 47],Qba 42 4,Qba 50 4],89,none⟩ [.c (.sl 0 0 3 3)] (.r (yR 54 4)),gs (Qau v.a) [cS 42] (rS 58),gs (Qdw v.b) [cS 43] (.r (sy [59,60])),gs (Qdw v.e) [cS 44] (.r (sy [61,62])),gs (Qtf 0 1) [lc 0,lc 1] (.r (sy [63,64])),gs (Qex _ (⟨0,1⟩:QC) (Qbk (H.B.E.upby 1) Qdi) (Qbj 0 1) (by decide)) [sy [61,62],sy [63,64]] (.r (sy [65,66])),gs (Qeo _ _ (Qbk (H.B.B.upby 1) Qdi) (Qcb (Qbk (H.B.E.upby 1) Qdi) (Qbj 0 1)) (by decide)) [sy [59,60],sy [65,66]] (.r (sy [67,68])),gs (Qbw _ ((Qbg H.B).mn)) [sy [67,68]] (rS 69),gs (Qau (Qbm v)) [cS 54] (rS 70),gs (Qtf 0 0) [lc 0,lc 0] (.r (sy [71,72])),gs (Qez (⟨0,0⟩:QC) ((Qbj 0 0).mn) (Qcq (by decide +kernel))) [sy [71,72]] (.tup [yR 73 8,lc 0])]
     [bI .leq 3 (.sym 41) (li 0) (((1:Rat)-(nm v.z)).num.sign) 0 false (by simp only[Qch];exact congrArg some (decide_eq_false H.hz)),bI .neq 3 (.sym 49) (li 0) ((Qjw v).num.sign) 0 false (by simp[Qch,H.f0]),bI .neq 3 (.sym 58) (li 0) v.a.num.sign 0 false (by simp[Qch,H.f1]),bI .eql 3 (.sym 70) (li 0) ((Qbm v).num.sign) 0 true (by simp[Qch,H.f2])] [] Qku 1 5 func10 eo10 2000 [lc 2,.row (gL [0,6]),yR 12 8] (.tup [yR 73 8,lc 0])
def Uuc:SCt 31 [gIi 1,.row ((Qah (⟨0,1⟩:QC)).cells),.row ((Qah (⟨0,2⟩:QC)).cells)] (.tup [.row (rF (5/4:Rat)),gIi 0]):=by
 have e:Qdy ⟨0,1⟩ ⟨0,2⟩=5/4:=by decide +kernel
 have k:=Ude ⟨0,1⟩ ⟨0,2⟩ (Qcq (by decide +kernel)) (Qcq (by decide +kernel)) (by decide +kernel) (by decide +kernel) (by rw[e];decide +kernel);rw[e] at k;exact k
def Umd  :SCt 33 [gIi 1,gIi 2] (.tup [.row ((Qah (⟨1,0⟩:QC)).cells++(Qah (⟨0,-1⟩:QC)).cells++(Qah (⟨1,0⟩:QC)).cells++(Qah (⟨0,1⟩:QC)).cells++[gl (.bool false)]),gIi 0]) :=
  Qbn (L := [(Qah (⟨0,1⟩ : QC)).cells,(Qah (⟨0,0⟩ : QC)).cells,(Qah (⟨1,0⟩ : QC)).cells,(Qah (⟨0,-1⟩ : QC)).cells,cn (⟨1,0⟩ : QC),cn (⟨0,-1⟩ : QC),cn (⟨0,1⟩ : QC),cn (⟨0,2⟩ : QC),(Qah ((⟨1,0⟩ : QC)/(⟨1,0⟩ : QC))).cells,(Qah ((⟨0,-1⟩ : QC)/(⟨1,0⟩ : QC))).cells,(Qah ((⟨1,0⟩ : QC)/(⟨1,0⟩ : QC))).cells,(Qah ((⟨0,1⟩ : QC)/(⟨1,0⟩ : QC))).cells].flatten) Qai Qap
     [Qfk eo45,gpi 0 1 0,gpi 0 0 8,gpi 1 0 16,gpi 0 (-1) 24,gs (Qew (⟨1,0⟩:QC) (Qcq (by decide +kernel))) [yR 16 8] (.tup [sy [32,33],cTt]),gs (Qew (⟨0,-1⟩:QC) (Qcq (by decide +kernel))) [yR 24 8] (.tup [sy [34,35],cTt]),gs (Qew (⟨0,1⟩:QC) (Qcq (by decide +kernel))) [yR 0 8] (.tup [sy [36,37],cTt]),gs (Uvy (⟨1,0⟩:QC) (⟨0,-1⟩:QC) (⟨1,0⟩:QC) (⟨0,1⟩:QC) false ((Quz (⟨1,0⟩:QC) 1 (by decide +kernel)).mn) ((Quz (⟨0,-1⟩:QC) 1 (by decide +kernel)).mn) ((Quz (⟨1,0⟩:QC) 1 (by decide +kernel)).mn) ((Quz (⟨0,1⟩:QC) 1 (by decide +kernel)).mn)) [.row (flA [Qba 32 4,[.sym 32,.sym 33,.sym 36,.sym 37,.lit (.bool false)]])] (.r (sy [38,39])),gs (Qqq (⟨0,2⟩:QC) false (fI (by decide +kernel))) [sy [38,39]] vFf,gs ((Ufh (⟨1,0⟩:QC) (⟨0,-1⟩:QC) (⟨1,0⟩:QC) (⟨0,1⟩:QC) ((Quz (⟨1,0⟩:QC) 1 (by decide +kernel)).mn) ((Quz (⟨0,-1⟩:QC) 1 (by decide +kernel)).mn) ((Quz (⟨1,0⟩:QC) 1 (by decide +kernel)).mn) ((Quz (⟨0,1⟩:QC) 1 (by decide +kernel)).mn) (by decide +kernel)).t ⟨Qcq (by decide +kernel),Qcq (by decide +kernel),Qcq (by decide +kernel),Qcq (by decide +kernel)⟩) [.row (flA [Qba 32 4,[.sym 32,.sym 33,.sym 36,.sym 37,.lit (.bool false)]])] (.tup [.row (flA [Qba 40 32,[.lit (.bool false)]]),lc 0])]
     [] [] ((Kiz (Kfq (Qmv (Qmw (Qmx (Qmp (Kfr (Uwc (Uxz .nil))))))))):FnsOk prog _) 1 3 func33 eo33 2000 [lc 1,lc 2] (.tup [.row (flA [Qba 40 32,[.lit (.bool false)]]),lc 0])
def Uyg:SCt 28 [gIi 1,.row ((Qah (⟨0,1⟩:QC)).cells),.row ((Qah (⟨0,4⟩:QC)).cells)] (.tup [.row ((Qah (⟨1,0⟩:QC)).cells++(Qah (⟨0,-4⟩:QC)).cells),gIi 0]):=by
 have e0:Qep ⟨0,1⟩ ⟨0,4⟩/byF (Qep ⟨0,1⟩ ⟨0,4⟩) (Qeq ⟨0,1⟩ ⟨0,4⟩) (Qer ⟨0,1⟩ ⟨0,4⟩)=1:=by decide +kernel
 have e1:Qeq ⟨0,1⟩ ⟨0,4⟩/byF (Qep ⟨0,1⟩ ⟨0,4⟩) (Qeq ⟨0,1⟩ ⟨0,4⟩) (Qer ⟨0,1⟩ ⟨0,4⟩)=0:=by decide +kernel
 have e2:Qer ⟨0,1⟩ ⟨0,4⟩/byF (Qep ⟨0,1⟩ ⟨0,4⟩) (Qeq ⟨0,1⟩ ⟨0,4⟩) (Qer ⟨0,1⟩ ⟨0,4⟩)=0:=by decide +kernel
 have e3:Qhl ⟨0,1⟩ ⟨0,4⟩/byF (Qep ⟨0,1⟩ ⟨0,4⟩) (Qeq ⟨0,1⟩ ⟨0,4⟩) (Qer ⟨0,1⟩ ⟨0,4⟩)=-4:=by decide +kernel
 have k:=Udf ⟨0,1⟩ ⟨0,4⟩ (Qcq (by decide +kernel)) (Qcq (by decide +kernel)) (by decide +kernel) (by decide +kernel) (fun e=>absurd (congrArg QC.im e) (by decide +kernel)) (by unfold Qno;rw[e0,e1,e2,e3];exact⟨by decide +kernel,by decide +kernel,by decide +kernel,by decide +kernel⟩);unfold Qsj at k;rw[e0,e1,e2,e3] at k;exact k
