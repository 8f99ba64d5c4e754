/- Laws. -/
import Derived.Test.YtmimficdpfmfgaaGreatWbb
set_option linter.all false
set_option maxHeartbeats 4000000
set_option maxRecDepth 100000
namespace Go.Proofs.YtmimficdpfmfgaaGreat
open Go.RowKit Tr Proofs.Tryz
open Classical
def Vcv(v:V5):Rat:=((wx7 v)*v.a)-(v.a*(wx7 v))
def Kxc(v:V5):Rat:=((wx8 v)*v.a)-(v.b*(wx7 v))
def Kvi{v:V5}(B:v.O):RL (Kxc v) 836201:=(Qba ((wx8 v)*v.a) (v.b*(wx7 v)) (Qaa (wx8 v) v.a (Qjt B) (B.A.mn)) ((Qaa v.b (wx7 v) (B.B.mn) (Qea B)).mn)).mn
def Kxd(v:V5):Rat:=((wx9 v)*v.a)-(v.e*(wx7 v))
def Kvj{v:V5}(B:v.O):RL (Kxd v) 836201:=(Qba ((wx9 v)*v.a) (v.e*(wx7 v)) (Qaa (wx9 v) v.a (Qju B) (B.A.mn)) ((Qaa v.e (wx7 v) (B.E.mn) (Qea B)).mn)).mn
def Uen(v:V5):Rat:=((Qfy v)*v.a)-(v.d*(wx7 v))
def Kvk{v:V5}(B:v.O):RL (Uen v) 696801:=(Qba ((Qfy v)*v.a) (v.d*(wx7 v)) (Qaa (Qfy v) v.a (Qhp B) (B.A.mn)) (Qaa v.d (wx7 v) (B.D.mn) (Qea B))).mn
def Ueo(v:V5):QC:=(⟨(Kxd v),0⟩:QC)*(⟨0,1⟩:QC)
def Kvl{v:V5}(B:v.O):ZL (Ueo v) 1672409:=(Qct (Qau ((Kvj B).upby 1) Qda) (Qbq 0 1)).mn
def Qmi(v:V5):QC:=(⟨(Kxc v),0⟩:QC)-(Ueo v)
def Qfo{v:V5}(B:v.O):ZL (Qmi v) 2508612:=(Qec (Qau ((Kvi B).upby 1) Qda) (Kvl B)).mn
def Knw(v:V5):QC:=(Qnz v)*(cj (Qmi v))
def Kft{v:V5}(B:v.O)(f1:¬(v.a.num.sign=0)):ZL (Knw v) 5019291:=(Qct (Qfh B f1) (Qeg (Qfo B))).mn
def Uep(v:V5):Rat:=((Knw v).re)*(2:Rat)
def Kvm{v:V5}(B:v.O)(f1:¬(v.a.num.sign=0)):RL (Uep v) 10038582:=(Qaa ((Knw v).re) (2:Rat) (Qbo (Knw v) (Kft B f1)) (ri 2)).mn
def Knx(v:V5):Rat:=(Uep v)+(Uen v)
def Qpb{v:V5}(B:v.O)(f1:¬(v.a.num.sign=0)):RL (Knx v) 20077165:=(Qbv (Uep v) (Uen v) (Kvm B f1) ((Kvk B).mn)).mn
def Usi(v:V5):Rat:=(nm (Qmi v))*(2:Rat)
def Kvn{v:V5}(B:v.O):RL (Usi v) 20068898:=(Qaa (nm (Qmi v)) (2:Rat) (Qbe (Qfo B)) (ri 2)).mn
def Uls(v:V5):Rat:=(Knx v)/(Usi v)
def Kfu{v:V5}(B:v.O)(f1:¬(v.a.num.sign=0))(hN:¬(nm (Qmi v)=0)):RL (Uls v) 40146063:=(Qei (Qdv hN (by decide)) (Qpb B f1) (Kvn B)).mn
def Usj(v:V5):QC:=(⟨((Qmi v).re)*(Uls v),((Qmi v).im)*(Uls v)⟩:QC)
def Kvo{v:V5}(B:v.O)(f1:¬(v.a.num.sign=0))(hN:¬(nm (Qmi v)=0)):ZL (Usj v) 42654675:=(Qau (Qad (Qfo B).1 (Kfu B f1 hN)) (Qad (Qfo B).2 (Kfu B f1 hN))).mn
def Ult(v:V5):QC:=(Qnz v)-(Usj v)
def Qug{v:V5}(B:v.O)(f1:¬(v.a.num.sign=0))(hN:¬(nm (Qmi v)=0)):ZL (Ult v) 42655709:=(Qec (Qfh B f1) (Kvo B f1 hN)).mn
def Uuk(v:V5):Rat:=(Knx v)*(Knx v)
def Kvp{v:V5}(B:v.O)(f1:¬(v.a.num.sign=0)):RL (Uuk v) 40154330:=(Qaa (Knx v) (Knx v) (Qpb B f1) (Qpb B f1)).mn
def Uul(v:V5):Rat:=(nm (Qmi v))*(4:Rat)
def Kvq{v:V5}(B:v.O):RL (Uul v) 20068898:=(Qaa (nm (Qmi v)) (4:Rat) (Qbe (Qfo B)) (ri 4)).mn
def Usk(v:V5):Rat:=(Uuk v)/(Uul v)
def Kvr{v:V5}(B:v.O)(f1:¬(v.a.num.sign=0))(hN:¬(nm (Qmi v)=0)):RL (Usk v) 60223228:=(Qei (Qdv hN (by decide)) (Kvp B f1) (Kvq B)).mn
def Uum(v:V5):Rat:=(Kcw v)-(Usk v)
def Kvs{v:V5}(B:v.O)(f1:¬(v.a.num.sign=0))(hN:¬(nm (Qmi v)=0)):RL (Uum v) 120446457:=(Qba (Kcw v) (Usk v) ((Qkp B f1).mn) (Kvr B f1 hN)).mn
def Kkj(v:V5):Rat:=(Uum v)/(nm (Qmi v))
def Quh{v:V5}(B:v.O)(f1:¬(v.a.num.sign=0))(hN:¬(nm (Qmi v)=0)):RL (Kkj v) 130480906:=(Qei hN (Kvs B f1 hN) (Qbe (Qfo B))).mn
def Ulu(v:V5):QC:=(Qmi v)*(⟨0,1⟩:QC)
def Kfv{v:V5}(B:v.O):ZL (Ulu v) 5017229:=(Qct (Qfo B) (Qbq 0 1)).mn
noncomputable def Ulv(v:V5):QC:=(⟨((Ulu v).re)*(sqr (Kkj v)),((Ulu v).im)*(sqr (Kkj v))⟩:QC)
def Qui{v:V5}(B:v.O)(f1:¬(v.a.num.sign=0))(hN:¬(nm (Qmi v)=0)):ZL (Ulv v) 135498136:=(Qau (Qad (Kfv B).1 (Qdr (Quh B f1 hN))) (Qad (Kfv B).2 (Qdr (Quh B f1 hN)))).mn
noncomputable def Qqo(v:V5):QC:=(Ult v)+(Ulv v)
def Kfw{v:V5}(B:v.O)(f1:¬(v.a.num.sign=0))(hN:¬(nm (Qmi v)=0)):ZL (Qqo v) 178153846:=(Qht (Qug B f1 hN) (Qui B f1 hN)).mn
noncomputable def Kxe(v:V5):QC:=(Ult v)-(Ulv v)
def Kvt{v:V5}(B:v.O)(f1:¬(v.a.num.sign=0))(hN:¬(nm (Qmi v)=0)):ZL (Kxe v) 178153846:=(Qec (Qug B f1 hN) (Qui B f1 hN)).mn
noncomputable def Qlv(v:V5):List GF:=[cF v.a,cF v.b,cF v.e,cF v.d,(Qan v.z).cells,(Qan (⟨0,1⟩:QC)).cells,[gr v.a,gr v.b,gr v.e,gr v.d],cn v.z,[gr (0:Rat),gr (1:Rat),gr (1:Rat),gr (-v.z.re),gr v.z.im,gr (nm v.z),gr (wx7 v),gr (wx8 v),gr (wx9 v),gr (Qfy v),gxi v.a.num.sign,gxi ((wx7 v).num.sign),gr ((wx7 v)*v.a),gr (v.a*(wx7 v)),gr (Vcv v),gr ((wx8 v)*v.a),gr (v.b*(wx7 v)),gr (Kxc v),gr ((wx9 v)*v.a),gr (v.e*(wx7 v)),gr (Kxd v),gr ((Qfy v)*v.a),gr (v.d*(wx7 v)),gr (Uen v)],cn (⟨(Kxc v),0⟩:QC),cn (⟨(Kxd v),0⟩:QC),cn (⟨0,1⟩:QC),cn (Ueo v),cn (Qmi v),[gr (nm (Qmi v))],cn (⟨v.b,0⟩:QC),cn (⟨v.e,0⟩:QC),cn ((⟨v.e,0⟩:QC)*(⟨0,1⟩:QC)),cn (Qdm v),cn ((⟨0,0⟩:QC)-(Qdm v)),[gr (v.a⁻¹)],cn (Qnz v),cn (cj (Qmi v)),cn (Knw v),[gr ((Knw v).re),gr ((Knw v).im),gr (2:Rat),gr (Uep v),gr (Knx v),gr (Usi v),gr (Uls v)],cn (Usj v),cn (Ult v),[gr (Qam v.a v.b v.e v.d v.a v.b v.e v.d),gr (v.a*v.a),gr (Kcw v),gr (Uuk v),gr (4:Rat),gr (Uul v),gr (Usk v),gr (Uum v),gr (Kkj v),gr (sqr (Kkj v))],cn (Ulu v),cn (Ulv v),cn (Qqo v),[gr ((Qqo v).re),gr ((Qqo v).im),gxi (((Qqo v).im).num.sign)],(Qan (Qqo v)).cells,cn (Kxe v),(Qan (Kxe v)).cells,[ga]].flatten
structure Qpx(v:V5):Prop where
 B:v.O
 hz:¬(v.z.im.num.sign<=0)
 f0:((wx1 v).num.sign)=0
 f1:¬(v.a.num.sign=0)
 hN:¬(nm (Qmi v)=0)
 hW:Qlh v.a v.b v.e v.d
 f2:¬(((wx7 v).num.sign)=0)
noncomputable def Kie(v:V5)(H:Qpx v):List (GC prog (Qlv v) true):=[Qbw eo78,gs (Upu v H.B H.hz H.f0 H.hW) [lc 1,.row (gL [0,6]),yR 12 8] (.tup [.row (flA [[.fn 244 [] [],.lit (.int .i64 0),.lit (.int .i64 0),.lit (.int .i64 1),.lit (.int .i64 0),.lit (.int .i64 2)],Qbd 20 8]),yR 28 4,sy [32,33],lc 0]),gs (pnr 0) [lc 0,lc 1] (rS 34),gs (pnr 1) [lc 1,lc 1] (rS 35),gs (Qhf _ ((Qab H.B.z).mn)) [sy [32,33]] (.r (yR 36 4)),
   gsG (Qnf (0:Rat) (0:Rat) (1:Rat) (0:Rat) v.a v.b v.e v.d (1:Rat) (-v.z.re) v.z.im (nm v.z) (ri 0) (ri 0) (ri 1) (ri 0) (H.B.A.mn) (H.B.B.mn) (H.B.E.mn) (H.B.D.mn) (ri 1) ((Qah ((Qab H.B.z).1)).mn) (((Qab H.B.z).2).mn) ((Qbe (Qab H.B.z)).mn)) 22 ⟨flA [[.sym 34,.sym 34,.sym 35,.sym 34],Qbd 28 4,Qbd 36 4],143,none⟩ [.c (.sl 0 0 3 3)] (.r (yR 40 4)),gs (Qbb v.a) [cS 28] (rS 44),gs (Qbb (wx7 v)) [cS 40] (rS 45),gs (Qax _ _ ((Qea H.B).mn) (H.B.A.mn)) [cS 40,cS 28] (rS 46),gs (Qax _ _ (H.B.A.mn) ((Qea H.B).mn)) [cS 28,cS 40] (rS 47),gs (Qcw _ _ ((Qaa (wx7 v) v.a (Qea H.B) (H.B.A.mn)).mn) ((Qaa v.a (wx7 v) (H.B.A.mn) (Qea H.B)).mn)) [cS 46,cS 47] (rS 48),gs (Qax _ _ ((Qjt H.B).mn) (H.B.A.mn)) [cS 41,cS 28] (rS 49),gs (Qax _ _ (H.B.B.mn) ((Qea H.B).mn)) [cS 29,cS 40] (rS 50),gs (Qcw _ _ ((Qaa (wx8 v) v.a (Qjt H.B) (H.B.A.mn)).mn) ((Qaa v.b (wx7 v) (H.B.B.mn) (Qea H.B)).mn)) [cS 49,cS 50] (rS 51),gs (Qax _ _ ((Qju H.B).mn) (H.B.A.mn)) [cS 42,cS 28] (rS 52),gs (Qax _ _ (H.B.E.mn) ((Qea H.B).mn)) [cS 30,cS 40] (rS 53),gs (Qcw _ _ ((Qaa (wx9 v) v.a (Qju H.B) (H.B.A.mn)).mn) ((Qaa v.e (wx7 v) (H.B.E.mn) (Qea H.B)).mn)) [cS 52,cS 53] (rS 54),gs (Qax _ _ ((Qhp H.B).mn) (H.B.A.mn)) [cS 43,cS 28] (rS 55),gs (Qax _ _ (H.B.D.mn) ((Qea H.B).mn)) [cS 31,cS 40] (rS 56),gs (Qcw _ _ ((Qaa (Qfy v) v.a (Qhp H.B) (H.B.A.mn)).mn) ((Qaa v.d (wx7 v) (H.B.D.mn) (Qea H.B)).mn)) [cS 55,cS 56] (rS 57),gs (Qdp (Kxc v)) [cS 51] (.r (sy [58,59])),gs (Qdp (Kxd v)) [cS 54] (.r (sy [60,61])),gs (Qsp 0 1) [lc 0,lc 1] (.r (sy [62,63])),gs (Qfi _ (⟨0,1⟩:QC) (Qau ((Kvj H.B).upby 1) Qda) (Qbq 0 1) (by decide)) [sy [60,61],sy [62,63]] (.r (sy [64,65])),gs (Qem _ _ (Qau ((Kvi H.B).upby 1) Qda) (Kvl H.B) (by decide)) [sy [58,59],sy [64,65]] (.r (sy [66,67])),gs (Qee _ ((Qfo H.B).mn)) [sy [66,67]] (rS 68),gs (Qdp v.b) [cS 29] (.r (sy [69,70])),gs (Qdp v.e) [cS 30] (.r (sy [71,72])),gs (Qfi _ (⟨0,1⟩:QC) (Qau (H.B.E.upby 1) Qda) (Qbq 0 1) (by decide)) [sy [71,72],sy [62,63]] (.r (sy [73,74])),gs (Qem _ _ (Qau (H.B.B.upby 1) Qda) (Qct (Qau (H.B.E.upby 1) Qda) (Qbq 0 1)) (by decide)) [sy [69,70],sy [73,74]] (.r (sy [75,76])),gs (Kbk _ ((Qbl H.B).mn)) [sy [75,76]] (.r (sy [77,78])),
   Qqg v.a (Qak H.f1) H.B.A (by decide) 57 (.c (.sym 28)) (.sym 79),gs (Qdh _ _ ((Qrr (Qbl H.B)).mn) ((Qca (Qak H.f1) H.B.A).mn)) [sy [77,78],cS 79] (.r (sy [80,81])),gs (Qlk _ ((Qfo H.B).mn)) [sy [66,67]] (.r (sy [82,83])),gs (Qfi _ _ (Qfh H.B H.f1) (Qeg (Qfo H.B)) (by decide)) [sy [80,81],sy [82,83]] (.r (sy [84,85])),gs (Qcr _ ((Kft H.B H.f1).mn)) [sy [84,85]] (.tup [cS 86,cS 87]),gs (pnr 2) [lc 2,lc 1] (rS 88),gs (Qax _ (2:Rat) ((Qbo (Knw v) (Kft H.B H.f1)).mn) (ri 2)) [cS 86,cS 88] (rS 89),gs (Qkk _ _ ((Kvm H.B H.f1).mn) ((Kvk H.B).mn)) [cS 89,cS 57] (rS 90),gs (Qax _ (2:Rat) ((Qbe (Qfo H.B)).mn) (ri 2)) [cS 68,cS 88] (rS 91),gs (Qcc _ _ ((Qpb H.B H.f1).mn) ((Kvn H.B).mn) (Qdv H.hN (by decide))) [cS 90,cS 91] (rS 92),gs (Qdh _ _ ((Qfo H.B).mn) ((Kfu H.B H.f1 H.hN).mn)) [sy [66,67],cS 92] (.r (sy [93,94])),gs (Qem _ _ (Qfh H.B H.f1) (Kvo H.B H.f1 H.hN) (by decide)) [sy [80,81],sy [93,94]] (.r (sy [95,96])),gs (Qjq _ _ _ _ _ _ _ _ (H.B.A.mn) (H.B.B.mn) (H.B.E.mn) (H.B.D.mn) (H.B.A.mn) (H.B.B.mn) (H.B.E.mn) (H.B.D.mn)) [yR 28 4,yR 28 4] (rS 97),gs (Qax _ _ (H.B.A.mn) (H.B.A.mn)) [cS 28,cS 28] (rS 98),gs (Qcc _ _ ((Qfn v.a v.b v.e v.d v.a v.b v.e v.d H.B.A H.B.B H.B.E H.B.D H.B.A H.B.B H.B.E H.B.D).mn) ((Qaa v.a v.a H.B.A H.B.A).mn) (Qdv (Qak H.f1) (Qak H.f1))) [cS 97,cS 98] (rS 99),gs (Qax _ _ ((Qpb H.B H.f1).mn) ((Qpb H.B H.f1).mn)) [cS 90,cS 90] (rS 100),gs (pnr 4) [lc 4,lc 1] (rS 101),gs (Qax _ (4:Rat) ((Qbe (Qfo H.B)).mn) (ri 4)) [cS 68,cS 101] (rS 102),gs (Qcc _ _ ((Kvp H.B H.f1).mn) ((Kvq H.B).mn) (Qdv H.hN (by decide))) [cS 100,cS 102] (rS 103),gs (Qcw _ _ ((Qkp H.B H.f1).mn) ((Kvr H.B H.f1 H.hN).mn)) [cS 99,cS 103] (rS 104),gs (Qcc _ _ ((Kvs H.B H.f1 H.hN).mn) ((Qbe (Qfo H.B)).mn) H.hN) [cS 104,cS 68] (rS 105)]
noncomputable def Qre(v:V5)(H:Qpx v)(h0:Qer (Kkj v)):List (GC prog (Qlv v) true):=(Kie v H)++[gs (Qwc _ ((Quh H.B H.f1 H.hN).mn) h0) [cS 105] (.tup [cS 106,cTt]),gs (Qfi _ (⟨0,1⟩:QC) (Qfo H.B) (Qbq 0 1) (by decide)) [sy [66,67],sy [62,63]] (.r (sy [107,108])),gs (Qdh _ _ ((Kfv H.B).mn) ((Qdr (Quh H.B H.f1 H.hN)).mn)) [sy [107,108],cS 106] (.r (sy [109,110])),gs (Qqh _ _ (Qug H.B H.f1 H.hN) (Qui H.B H.f1 H.hN) (by decide)) [sy [95,96],sy [109,110]] (.r (sy [111,112])),gs (Qcr _ ((Kfw H.B H.f1 H.hN).mn)) [sy [111,112]] (.tup [cS 113,cS 114]),gs (Qbb ((Qqo v).im)) [cS 114] (rS 115)]
def Kzu(v:V5)(H:Qpx v)(h0:Qer (Kkj v))(h1:(((Qqo v).im).num.sign)>0)(h2:Qaj (Qqo v)):SCt 23 [gIi 1,.row (rG (⟨v.a,v.b⟩:QC)++rG (⟨v.e,v.d⟩:QC)),.row ((Qan v.z).cells)] (.tup [.row ((Qan (Qqo v)).cells),gIi 0]) :=
  Qas (L := Qlv v) Qae Qai
     ((Qre v H h0)++[gs (Qej _ ((Kfw H.B H.f1 H.hN).mn) h2) [sy [111,112]] (.tup [yR 116 8,lc 0])])
     [bNt 3 44 H.f1,bNt 3 45 H.f2,bEf 3 44 H.f1,gtY 3 (.sym 115) (li 0) (((Qqo v).im).num.sign) 0 h1] [] Qfp 1 5 func23 eo23 2000 [lc 1,.row (gL [0,6]),yR 12 8] (.tup [yR 116 8,lc 0])
def Kzv(v:V5)(H:Qpx v)(h0:Qer (Kkj v))(h1:(((Qqo v).im).num.sign)>0)(h2:¬(Qaj (Qqo v))):SCt 23 [gIi 1,.row (rG (⟨v.a,v.b⟩:QC)++rG (⟨v.e,v.d⟩:QC)),.row ((Qan v.z).cells)] (.tup [.row (zGG),gIi 4]) :=
  Qas (L := Qlv v) Qae Qai
     ((Qre v H h0)++[gs (Qex (Qqo v) ((Kfw H.B H.f1 H.hN).mn) h2) [sy [111,112]] (.tup [.row (zGA),lc 4])])
     [bNt 3 44 H.f1,bNt 3 45 H.f2,bEf 3 44 H.f1,gtY 3 (.sym 115) (li 0) (((Qqo v).im).num.sign) 0 h1] [] Qfp 1 5 func23 eo23 2000 [lc 1,.row (gL [0,6]),yR 12 8] (.tup [.row (zGA),lc 4])
def Kzw(v:V5)(H:Qpx v)(h0:Qer (Kkj v))(h1:¬((((Qqo v).im).num.sign)>0))(h2:Qaj (Kxe v)):SCt 23 [gIi 1,.row (rG (⟨v.a,v.b⟩:QC)++rG (⟨v.e,v.d⟩:QC)),.row ((Qan v.z).cells)] (.tup [.row ((Qan (Kxe v)).cells),gIi 0]) :=
  Qas (L := Qlv v) Qae Qai
     ((Qre v H h0)++[gs (Qem _ _ (Qug H.B H.f1 H.hN) (Qui H.B H.f1 H.hN) (by decide)) [sy [95,96],sy [109,110]] (.r (sy [124,125])),gs (Qej _ ((Kvt H.B H.f1 H.hN).mn) h2) [sy [124,125]] (.tup [yR 126 8,lc 0])])
     [bNt 3 44 H.f1,bNt 3 45 H.f2,bEf 3 44 H.f1,gtN 3 (.sym 115) (li 0) (((Qqo v).im).num.sign) 0 h1] [] Qfp 1 5 func23 eo23 2000 [lc 1,.row (gL [0,6]),yR 12 8] (.tup [yR 126 8,lc 0])
def Kzx(v:V5)(H:Qpx v)(h0:Qer (Kkj v))(h1:¬((((Qqo v).im).num.sign)>0))(h2:¬(Qaj (Kxe v))):SCt 23 [gIi 1,.row (rG (⟨v.a,v.b⟩:QC)++rG (⟨v.e,v.d⟩:QC)),.row ((Qan v.z).cells)] (.tup [.row (zGG),gIi 4]) :=
  Qas (L := Qlv v) Qae Qai
     ((Qre v H h0)++[gs (Qem _ _ (Qug H.B H.f1 H.hN) (Qui H.B H.f1 H.hN) (by decide)) [sy [95,96],sy [109,110]] (.r (sy [124,125])),gs (Qex (Kxe v) ((Kvt H.B H.f1 H.hN).mn) h2) [sy [124,125]] (.tup [.row (zGA),lc 4])])
     [bNt 3 44 H.f1,bNt 3 45 H.f2,bEf 3 44 H.f1,gtN 3 (.sym 115) (li 0) (((Qqo v).im).num.sign) 0 h1] [] Qfp 1 5 func23 eo23 2000 [lc 1,.row (gL [0,6]),yR 12 8] (.tup [.row (zGA),lc 4])
def Kzy(v:V5)(H:Qpx v)(h0:¬(Qer (Kkj v))):SCt 23 [gIi 1,.row (rG (⟨v.a,v.b⟩:QC)++rG (⟨v.e,v.d⟩:QC)),.row ((Qan v.z).cells)] (.tup [.row (zGG),gIi 7]) :=
  Qas (L := Qlv v) Qae Qai
     ((Kie v H)++[gs (Qos _ ((Quh H.B H.f1 H.hN).mn) h0) [cS 105] (.tup [cS 134,cFf])])
     [bNt 3 44 H.f1,bNt 3 45 H.f2,bEf 3 44 H.f1] [] Qfp 1 5 func23 eo23 2000 [lc 1,.row (gL [0,6]),yR 12 8] (.tup [.row (zGA),lc 7])
def Knj(v:V5):QC:=(⟨(Qev v),0⟩:QC)*(⟨0,1⟩:QC)
def Kfx{v:V5}(B:v.O):ZL (Knj v) 418107:=(Qct (Qau ((Qgp B).upby 1) Qda) (Qbq 0 1)).mn
def Qjy(v:V5):QC:=(⟨(Qeu v),0⟩:QC)-(Knj v)
def Qfe{v:V5}(B:v.O):ZL (Qjy v) 627159:=(Qec (Qau ((Qgo B).upby 1) Qda) (Kfx B)).mn
def Ueq(v:V5):QC:=(⟨0,0⟩:QC)-(Qjy v)
def Kfy{v:V5}(B:v.O):ZL (Ueq v) 627159:=(Qrr (Qfe B)).mn
def Uer(v:V5):QC:=(⟨((Ueq v).re)*((Qcl v)⁻¹),((Ueq v).im)*((Qcl v)⁻¹)⟩:QC)
def Qzd{v:V5}(B:v.O)(f2:¬(((Qcl v).num.sign)=0)):ZL (Uer v) 801359:=(Qau (Qad (Kfy B).1 (Qca (Qak f2) (Qde B))) (Qad (Kfy B).2 (Qca (Qak f2) (Qde B)))).mn
def Kny(v:V5):QC:=(Uer v)*(cj (Qdm v))
def Kfz{v:V5}(B:v.O)(f2:¬(((Qcl v).num.sign)=0)):ZL (Kny v) 1604273:=(Qct (Qzd B f2) (Qeg (Qbl B))).mn
def Qze(v:V5):Rat:=((Kny v).re)*(2:Rat)
def Qmf{v:V5}(B:v.O)(f2:¬(((Qcl v).num.sign)=0)):RL (Qze v) 3208546:=(Qaa ((Kny v).re) (2:Rat) (Qbo (Kny v) (Kfz B f2)) (ri 2)).mn
def Ulw(v:V5):Rat:=((Qze v)+v.d)/((nm (Qdm v))*(2:Rat))
def Kga{v:V5}(B:v.O)(f2:¬(((Qcl v).num.sign)=0))(hN:¬(nm (Qdm v)=0)):RL (Ulw v) 6423311:=(Qei (Qdv hN (by decide)) (Qbv (Qze v) v.d (Qmf B f2) (B.D.mn)) (Qaa (nm (Qdm v)) (2:Rat) (Qbe (Qbl B)) (ri 2))).mn
def Usl(v:V5):QC:=(⟨((Qdm v).re)*(Ulw v),((Qdm v).im)*(Ulw v)⟩:QC)
def Kvu{v:V5}(B:v.O)(f2:¬(((Qcl v).num.sign)=0))(hN:¬(nm (Qdm v)=0)):ZL (Usl v) 6424088:=(Qau (Qad (Qbl B).1 (Kga B f2 hN)) (Qad (Qbl B).2 (Kga B f2 hN))).mn
def Ulx(v:V5):QC:=(Uer v)-(Usl v)
def Quj{v:V5}(B:v.O)(f2:¬(((Qcl v).num.sign)=0))(hN:¬(nm (Qdm v)=0)):ZL (Ulx v) 7225448:=(Qec (Qzd B f2) (Kvu B f2 hN)).mn
def Uun(v:V5):Rat:=Qam (Qcl v) (Qeu v) (Qev v) (Qfx v) (Qcl v) (Qeu v) (Qev v) (Qfx v)
def Kvv{v:V5}(B:v.O):RL (Uun v) 3344809:=(Qfn (Qcl v) (Qeu v) (Qev v) (Qfx v) (Qcl v) (Qeu v) (Qev v) (Qfx v) ((Qde B).mn) (Qgo B) (Qgp B) ((Qhq B).mn) ((Qde B).mn) (Qgo B) (Qgp B) ((Qhq B).mn)).mn
def Uuo(v:V5):Rat:=(Qcl v)*(Qcl v)
def Kvw{v:V5}(B:v.O):RL (Uuo v) 348400:=(Qaa (Qcl v) (Qcl v) (Qde B) (Qde B)).mn
def Usm(v:V5):Rat:=(Uun v)/(Uuo v)
def Kvx{v:V5}(B:v.O)(f2:¬(((Qcl v).num.sign)=0)):RL (Usm v) 3693209:=(Qei (Qdv (Qak f2) (Qak f2)) (Kvv B) (Kvw B)).mn
def Uup(v:V5):Rat:=((Qze v)+v.d)*((Qze v)+v.d)
def Kvy{v:V5}(B:v.O)(f2:¬(((Qcl v).num.sign)=0)):RL (Uup v) 12834186:=(Qaa ((Qze v)+v.d) ((Qze v)+v.d) (Qbv (Qze v) v.d (Qmf B f2) (B.D.mn)) (Qbv (Qze v) v.d (Qmf B f2) (B.D.mn))).mn
def Usn(v:V5):Rat:=(Uup v)/((nm (Qdm v))*(4:Rat))
def Kvz{v:V5}(B:v.O)(f2:¬(((Qcl v).num.sign)=0))(hN:¬(nm (Qdm v)=0)):RL (Usn v) 12840404:=(Qei (Qdv hN (by decide)) (Kvy B f2) (Qaa (nm (Qdm v)) (4:Rat) (Qbe (Qbl B)) (ri 4))).mn
def Uuq(v:V5):Rat:=(Usm v)-(Usn v)
def Kwa{v:V5}(B:v.O)(f2:¬(((Qcl v).num.sign)=0))(hN:¬(nm (Qdm v)=0)):RL (Uuq v) 25680809:=(Qba (Usm v) (Usn v) ((Kvx B f2).mn) (Kvz B f2 hN)).mn
def Kkl(v:V5):Rat:=(Uuq v)/(nm (Qdm v))
def Quk{v:V5}(B:v.O)(f2:¬(((Qcl v).num.sign)=0))(hN:¬(nm (Qdm v)=0)):RL (Kkl v) 25683918:=(Qei hN (Kwa B f2 hN) (Qbe (Qbl B))).mn
noncomputable def Uly(v:V5):QC:=(⟨(((Qdm v)*(⟨0,1⟩:QC)).re)*(sqr (Kkl v)),(((Qdm v)*(⟨0,1⟩:QC)).im)*(sqr (Kkl v))⟩:QC)
def Qul{v:V5}(B:v.O)(f2:¬(((Qcl v).num.sign)=0))(hN:¬(nm (Qdm v)=0)):ZL (Uly v) 25685478:=(Qau (Qad (Qct (Qbl B) (Qbq 0 1)).1 (Qdr (Quk B f2 hN))) (Qad (Qct (Qbl B) (Qbq 0 1)).2 (Qdr (Quk B f2 hN)))).mn
noncomputable def Kgb(v:V5):QC:=(Ulx v)+(Uly v)
def Qzf{v:V5}(B:v.O)(f2:¬(((Qcl v).num.sign)=0))(hN:¬(nm (Qdm v)=0)):ZL (Kgb v) 32910927:=(Qht (Quj B f2 hN) (Qul B f2 hN)).mn
noncomputable def Kwb(v:V5):Rat:=(1:Rat)-(nm (Kgb v))
noncomputable def Kxf(v:V5):QC:=(Ulx v)-(Uly v)
def Kwc{v:V5}(B:v.O)(f2:¬(((Qcl v).num.sign)=0))(hN:¬(nm (Qdm v)=0)):ZL (Kxf v) 32910927:=(Qec (Quj B f2 hN) (Qul B f2 hN)).mn
noncomputable def Qlx(v:V5):List GF:=[cF v.a,cF v.b,cF v.e,cF v.d,(Qan v.z).cells,(Qan (⟨0,0⟩:QC)).cells,[gr v.a,gr v.b,gr v.e,gr v.d],cn v.z,[gr (1:Rat),gr (0:Rat),gr (-1:Rat),gr (1:Rat),gr (-v.z.re),gr v.z.im,gr (nm v.z),gr (Qcl v),gr (Qeu v),gr (Qev v),gr (Qfx v),gxi v.a.num.sign],cn (⟨v.b,0⟩:QC),cn (⟨v.e,0⟩:QC),cn (⟨0,1⟩:QC),cn ((⟨v.e,0⟩:QC)*(⟨0,1⟩:QC)),cn (Qdm v),[gr (nm (Qdm v)),gxi ((Qcl v).num.sign)],cn (⟨(Qeu v),0⟩:QC),cn (⟨(Qev v),0⟩:QC),cn (Knj v),cn (Qjy v),cn (Ueq v),[gr ((Qcl v)⁻¹)],cn (Uer v),cn (cj (Qdm v)),cn (Kny v),[gr ((Kny v).re),gr ((Kny v).im),gr (2:Rat),gr (Qze v),gr ((Qze v)+v.d),gr ((nm (Qdm v))*(2:Rat)),gr (Ulw v)],cn (Usl v),cn (Ulx v),[gr (Uun v),gr (Uuo v),gr (Usm v),gr (Uup v),gr (4:Rat),gr ((nm (Qdm v))*(4:Rat)),gr (Usn v),gr (Uuq v),gr (Kkl v),gr (sqr (Kkl v))],cn ((Qdm v)*(⟨0,1⟩:QC)),cn (Uly v),cn (Kgb v),[gr (nm (Kgb v)),gr (Kwb v),gxi ((Kwb v).num.sign)],(Qan (Kgb v)).cells,cn (Kxf v),(Qan (Kxf v)).cells,[ga]].flatten
structure Qpz(v:V5):Prop where
 B:v.O
 hz:¬((((1:Rat)-(nm v.z)).num.sign)<=0)
 f0:((wx2 v).num.sign)=0
 f2:¬(((Qcl v).num.sign)=0)
 hN:¬(nm (Qdm v)=0)
 hW:Qlh v.a v.b v.e v.d
 f1:v.a.num.sign=0
noncomputable def Kig(v:V5)(H:Qpz v):List (GC prog (Qlx v) true):=[Qbw eo78,gs (Ukx v H.B H.hz H.f0 H.hW) [lc 2,.row (gL [0,6]),yR 12 8] (.tup [.row (flA [[.fn 245 [] [],.lit (.int .i64 1),.lit (.int .i64 0),.lit (.int .i64 0),.lit (.int .i64 (-1)),.lit (.int .i64 1)],Qbd 20 8]),yR 28 4,sy [32,33],lc 0]),gs (pnr 1) [lc 1,lc 1] (rS 34),gs (pnr 0) [lc 0,lc 1] (rS 35),gs (pnr (-1)) [lc (-1),lc 1] (rS 36),gs (Qhf _ ((Qab H.B.z).mn)) [sy [32,33]] (.r (yR 37 4)),
   gsG (Qnf (1:Rat) (0:Rat) (0:Rat) (-1:Rat) v.a v.b v.e v.d (1:Rat) (-v.z.re) v.z.im (nm v.z) (ri 1) (ri 0) (ri 0) (ri (-1)) (H.B.A.mn) (H.B.B.mn) (H.B.E.mn) (H.B.D.mn) (ri 1) ((Qah ((Qab H.B.z).1)).mn) (((Qab H.B.z).2).mn) ((Qbe (Qab H.B.z)).mn)) 22 ⟨flA [[.sym 34,.sym 35,.sym 35,.sym 36],Qbd 28 4,Qbd 37 4],143,none⟩ [.c (.sl 0 0 3 3)] (.r (yR 41 4)),gs (Qbb v.a) [cS 28] (rS 45),gs (Qdp v.b) [cS 29] (.r (sy [46,47])),gs (Qdp v.e) [cS 30] (.r (sy [48,49])),gs (Qsp 0 1) [lc 0,lc 1] (.r (sy [50,51])),gs (Qfi _ (⟨0,1⟩:QC) (Qau (H.B.E.upby 1) Qda) (Qbq 0 1) (by decide)) [sy [48,49],sy [50,51]] (.r (sy [52,53])),gs (Qem _ _ (Qau (H.B.B.upby 1) Qda) (Qct (Qau (H.B.E.upby 1) Qda) (Qbq 0 1)) (by decide)) [sy [46,47],sy [52,53]] (.r (sy [54,55])),gs (Qee _ ((Qbl H.B).mn)) [sy [54,55]] (rS 56),gs (Qbb (Qcl v)) [cS 41] (rS 57),gs (Qdp (Qeu v)) [cS 42] (.r (sy [58,59])),gs (Qdp (Qev v)) [cS 43] (.r (sy [60,61])),gs (Qfi _ (⟨0,1⟩:QC) (Qau ((Qgp H.B).upby 1) Qda) (Qbq 0 1) (by decide)) [sy [60,61],sy [50,51]] (.r (sy [62,63])),gs (Qem _ _ (Qau ((Qgo H.B).upby 1) Qda) (Kfx H.B) (by decide)) [sy [58,59],sy [62,63]] (.r (sy [64,65])),gs (Kbk _ ((Qfe H.B).mn)) [sy [64,65]] (.r (sy [66,67])),
   Qqg (Qcl v) (Qak H.f2) (Qde H.B) (by decide) 57 (.c (.sym 41)) (.sym 68),gs (Qdh _ _ ((Kfy H.B).mn) ((Qca (Qak H.f2) (Qde H.B)).mn)) [sy [66,67],cS 68] (.r (sy [69,70])),gs (Qlk _ ((Qbl H.B).mn)) [sy [54,55]] (.r (sy [71,72])),gs (Qfi _ _ (Qzd H.B H.f2) (Qeg (Qbl H.B)) (by decide)) [sy [69,70],sy [71,72]] (.r (sy [73,74])),gs (Qcr _ ((Kfz H.B H.f2).mn)) [sy [73,74]] (.tup [cS 75,cS 76]),gs (pnr 2) [lc 2,lc 1] (rS 77),gs (Qax _ (2:Rat) ((Qbo (Kny v) (Kfz H.B H.f2)).mn) (ri 2)) [cS 75,cS 77] (rS 78),gs (Qkk _ _ ((Qmf H.B H.f2).mn) (H.B.D.mn)) [cS 78,cS 31] (rS 79),gs (Qax _ (2:Rat) ((Qbe (Qbl H.B)).mn) (ri 2)) [cS 56,cS 77] (rS 80),gs (Qcc _ _ ((Qbv (Qze v) v.d (Qmf H.B H.f2) (H.B.D.mn)).mn) ((Qaa (nm (Qdm v)) (2:Rat) (Qbe (Qbl H.B)) (ri 2)).mn) (Qdv H.hN (by decide))) [cS 79,cS 80] (rS 81),gs (Qdh _ _ ((Qbl H.B).mn) ((Kga H.B H.f2 H.hN).mn)) [sy [54,55],cS 81] (.r (sy [82,83])),gs (Qem _ _ (Qzd H.B H.f2) (Kvu H.B H.f2 H.hN) (by decide)) [sy [69,70],sy [82,83]] (.r (sy [84,85])),gs (Qjq _ _ _ _ _ _ _ _ ((Qde H.B).mn) ((Qgo H.B).mn) ((Qgp H.B).mn) ((Qhq H.B).mn) ((Qde H.B).mn) ((Qgo H.B).mn) ((Qgp H.B).mn) ((Qhq H.B).mn)) [yR 41 4,yR 41 4] (rS 86),gs (Qax _ _ ((Qde H.B).mn) ((Qde H.B).mn)) [cS 41,cS 41] (rS 87),gs (Qcc _ _ ((Kvv H.B).mn) ((Kvw H.B).mn) (Qdv (Qak H.f2) (Qak H.f2))) [cS 86,cS 87] (rS 88),gs (Qax _ _ ((Qbv (Qze v) v.d (Qmf H.B H.f2) (H.B.D.mn)).mn) ((Qbv (Qze v) v.d (Qmf H.B H.f2) (H.B.D.mn)).mn)) [cS 79,cS 79] (rS 89),gs (pnr 4) [lc 4,lc 1] (rS 90),gs (Qax _ (4:Rat) ((Qbe (Qbl H.B)).mn) (ri 4)) [cS 56,cS 90] (rS 91),gs (Qcc _ _ ((Kvy H.B H.f2).mn) ((Qaa (nm (Qdm v)) (4:Rat) (Qbe (Qbl H.B)) (ri 4)).mn) (Qdv H.hN (by decide))) [cS 89,cS 91] (rS 92),gs (Qcw _ _ ((Kvx H.B H.f2).mn) ((Kvz H.B H.f2 H.hN).mn)) [cS 88,cS 92] (rS 93),gs (Qcc _ _ ((Kwa H.B H.f2 H.hN).mn) ((Qbe (Qbl H.B)).mn) H.hN) [cS 93,cS 56] (rS 94)]
noncomputable def Qrg(v:V5)(H:Qpz v)(h0:Qer (Kkl v)):List (GC prog (Qlx v) true):=(Kig v H)++[gs (Qwc _ ((Quk H.B H.f2 H.hN).mn) h0) [cS 94] (.tup [cS 95,cTt]),gs (Qfi _ (⟨0,1⟩:QC) (Qbl H.B) (Qbq 0 1) (by decide)) [sy [54,55],sy [50,51]] (.r (sy [96,97])),gs (Qdh _ _ ((Qct (Qbl H.B) (Qbq 0 1)).mn) ((Qdr (Quk H.B H.f2 H.hN)).mn)) [sy [96,97],cS 95] (.r (sy [98,99])),gs (Qqh _ _ (Quj H.B H.f2 H.hN) (Qul H.B H.f2 H.hN) (by decide)) [sy [84,85],sy [98,99]] (.r (sy [100,101])),gs (Qee _ ((Qzf H.B H.f2 H.hN).mn)) [sy [100,101]] (rS 102),gs (Qcw (1:Rat) _ (ri 1) ((Qbe (Qzf H.B H.f2 H.hN)).mn)) [cS 34,cS 102] (rS 103),gs (Qbb (Kwb v)) [cS 103] (rS 104)]
def Uae(v:V5)(H:Qpz v)(h0:Qer (Kkl v))(h1:((Kwb v).num.sign)>0)(h2:Qaj (Kgb v)):SCt 23 [gIi 2,.row (rG (⟨v.a,v.b⟩:QC)++rG (⟨v.e,v.d⟩:QC)),.row ((Qan v.z).cells)] (.tup [.row ((Qan (Kgb v)).cells),gIi 0]) :=
  Qas (L := Qlx v) Qae Qai
     ((Qrg v H h0)++[gs (Qej _ ((Qzf H.B H.f2 H.hN).mn) h2) [sy [100,101]] (.tup [yR 105 8,lc 0])])
     [bNf 3 45 H.f1,bEf 3 57 H.f2,gtY 3 (.sym 104) (li 0) ((Kwb v).num.sign) 0 h1] [] Qfp 1 5 func23 eo23 2000 [lc 2,.row (gL [0,6]),yR 12 8] (.tup [yR 105 8,lc 0])
def Uaf(v:V5)(H:Qpz v)(h0:Qer (Kkl v))(h1:((Kwb v).num.sign)>0)(h2:¬(Qaj (Kgb v))):SCt 23 [gIi 2,.row (rG (⟨v.a,v.b⟩:QC)++rG (⟨v.e,v.d⟩:QC)),.row ((Qan v.z).cells)] (.tup [.row (zGG),gIi 4]) :=
  Qas (L := Qlx v) Qae Qai
     ((Qrg v H h0)++[gs (Qex (Kgb v) ((Qzf H.B H.f2 H.hN).mn) h2) [sy [100,101]] (.tup [.row (zGA),lc 4])])
     [bNf 3 45 H.f1,bEf 3 57 H.f2,gtY 3 (.sym 104) (li 0) ((Kwb v).num.sign) 0 h1] [] Qfp 1 5 func23 eo23 2000 [lc 2,.row (gL [0,6]),yR 12 8] (.tup [.row (zGA),lc 4])
def Uag(v:V5)(H:Qpz v)(h0:Qer (Kkl v))(h1:¬(((Kwb v).num.sign)>0))(h2:Qaj (Kxf v)):SCt 23 [gIi 2,.row (rG (⟨v.a,v.b⟩:QC)++rG (⟨v.e,v.d⟩:QC)),.row ((Qan v.z).cells)] (.tup [.row ((Qan (Kxf v)).cells),gIi 0]) :=
  Qas (L := Qlx v) Qae Qai
     ((Qrg v H h0)++[gs (Qem _ _ (Quj H.B H.f2 H.hN) (Qul H.B H.f2 H.hN) (by decide)) [sy [84,85],sy [98,99]] (.r (sy [113,114])),gs (Qej _ ((Kwc H.B H.f2 H.hN).mn) h2) [sy [113,114]] (.tup [yR 115 8,lc 0])])
     [bNf 3 45 H.f1,bEf 3 57 H.f2,gtN 3 (.sym 104) (li 0) ((Kwb v).num.sign) 0 h1] [] Qfp 1 5 func23 eo23 2000 [lc 2,.row (gL [0,6]),yR 12 8] (.tup [yR 115 8,lc 0])
def Uah(v:V5)(H:Qpz v)(h0:Qer (Kkl v))(h1:¬(((Kwb v).num.sign)>0))(h2:¬(Qaj (Kxf v))):SCt 23 [gIi 2,.row (rG (⟨v.a,v.b⟩:QC)++rG (⟨v.e,v.d⟩:QC)),.row ((Qan v.z).cells)] (.tup [.row (zGG),gIi 4]) :=
  Qas (L := Qlx v) Qae Qai
     ((Qrg v H h0)++[gs (Qem _ _ (Quj H.B H.f2 H.hN) (Qul H.B H.f2 H.hN) (by decide)) [sy [84,85],sy [98,99]] (.r (sy [113,114])),gs (Qex (Kxf v) ((Kwc H.B H.f2 H.hN).mn) h2) [sy [113,114]] (.tup [.row (zGA),lc 4])])
     [bNf 3 45 H.f1,bEf 3 57 H.f2,gtN 3 (.sym 104) (li 0) ((Kwb v).num.sign) 0 h1] [] Qfp 1 5 func23 eo23 2000 [lc 2,.row (gL [0,6]),yR 12 8] (.tup [.row (zGA),lc 4])
def Uai(v:V5)(H:Qpz v)(h0:¬(Qer (Kkl v))):SCt 23 [gIi 2,.row (rG (⟨v.a,v.b⟩:QC)++rG (⟨v.e,v.d⟩:QC)),.row ((Qan v.z).cells)] (.tup [.row (zGG),gIi 7]) :=
  Qas (L := Qlx v) Qae Qai
     ((Kig v H)++[gs (Qos _ ((Quk H.B H.f2 H.hN).mn) h0) [cS 94] (.tup [cS 123,cFf])])
     [bNf 3 45 H.f1,bEf 3 57 H.f2] [] Qfp 1 5 func23 eo23 2000 [lc 2,.row (gL [0,6]),yR 12 8] (.tup [.row (zGA),lc 7])
def Knz(v:V5):QC:=(Qnz v)*(cj (Qjy v))
def Kgc{v:V5}(B:v.O)(f1:¬(v.a.num.sign=0)):ZL (Knz v) 1256385:=(Qct (Qfh B f1) (Qeg (Qfe B))).mn
def Ues(v:V5):Rat:=((Knz v).re)*(2:Rat)
def Kwd{v:V5}(B:v.O)(f1:¬(v.a.num.sign=0)):RL (Ues v) 2512770:=(Qaa ((Knz v).re) (2:Rat) (Qbo (Knz v) (Kgc B f1)) (ri 2)).mn
def Koa(v:V5):Rat:=(Ues v)+(Qfx v)
def Qpc{v:V5}(B:v.O)(f1:¬(v.a.num.sign=0)):RL (Koa v) 5025541:=(Qbv (Ues v) (Qfx v) (Kwd B f1) ((Qhq B).mn)).mn
def Uso(v:V5):Rat:=(nm (Qjy v))*(2:Rat)
def Kwe{v:V5}(B:v.O):RL (Uso v) 5017274:=(Qaa (nm (Qjy v)) (2:Rat) (Qbe (Qfe B)) (ri 2)).mn
def Ulz(v:V5):Rat:=(Koa v)/(Uso v)
def Kgd{v:V5}(B:v.O)(f1:¬(v.a.num.sign=0))(hN:¬(nm (Qjy v)=0)):RL (Ulz v) 10042815:=(Qei (Qdv hN (by decide)) (Qpc B f1) (Kwe B)).mn
def Usp(v:V5):QC:=(⟨((Qjy v).re)*(Ulz v),((Qjy v).im)*(Ulz v)⟩:QC)
def Kwf{v:V5}(B:v.O)(f1:¬(v.a.num.sign=0))(hN:¬(nm (Qjy v)=0)):ZL (Usp v) 10669974:=(Qau (Qad (Qfe B).1 (Kgd B f1 hN)) (Qad (Qfe B).2 (Kgd B f1 hN))).mn
def Knb(v:V5):QC:=(Qnz v)-(Usp v)
def Qnr{v:V5}(B:v.O)(f1:¬(v.a.num.sign=0))(hN:¬(nm (Qjy v)=0)):ZL (Knb v) 10671008:=(Qec (Qfh B f1) (Kwf B f1 hN)).mn
def Ubv(v:V5):Rat:=(Koa v)*(Koa v)
def Kjr{v:V5}(B:v.O)(f1:¬(v.a.num.sign=0)):RL (Ubv v) 10051082:=(Qaa (Koa v) (Koa v) (Qpc B f1) (Qpc B f1)).mn
def Ubw(v:V5):Rat:=(nm (Qjy v))*(4:Rat)
def Kjs{v:V5}(B:v.O):RL (Ubw v) 5017274:=(Qaa (nm (Qjy v)) (4:Rat) (Qbe (Qfe B)) (ri 4)).mn
def Kun(v:V5):Rat:=(Ubv v)/(Ubw v)
def Kjt{v:V5}(B:v.O)(f1:¬(v.a.num.sign=0))(hN:¬(nm (Qjy v)=0)):RL (Kun v) 15068356:=(Qei (Qdv hN (by decide)) (Kjr B f1) (Kjs B)).mn
def Ubx(v:V5):Rat:=(Kcw v)-(Kun v)
def Kju{v:V5}(B:v.O)(f1:¬(v.a.num.sign=0))(hN:¬(nm (Qjy v)=0)):RL (Ubx v) 30136713:=(Qba (Kcw v) (Kun v) ((Qkp B f1).mn) (Kjt B f1 hN)).mn
def Qns(v:V5):Rat:=(Ubx v)/(nm (Qjy v))
def Qnt{v:V5}(B:v.O)(f1:¬(v.a.num.sign=0))(hN:¬(nm (Qjy v)=0)):RL (Qns v) 32645350:=(Qei hN (Kju B f1 hN) (Qbe (Qfe B))).mn
def Knc(v:V5):QC:=(Qjy v)*(⟨0,1⟩:QC)
def Qyx{v:V5}(B:v.O):ZL (Knc v) 1254323:=(Qct (Qfe B) (Qbq 0 1)).mn
noncomputable def Knd(v:V5):QC:=(⟨((Knc v).re)*(sqr (Qns v)),((Knc v).im)*(sqr (Qns v))⟩:QC)
def Qnu{v:V5}(B:v.O)(f1:¬(v.a.num.sign=0))(hN:¬(nm (Qjy v)=0)):ZL (Knd v) 33899674:=(Qau (Qad (Qyx B).1 (Qdr (Qnt B f1 hN))) (Qad (Qyx B).2 (Qdr (Qnt B f1 hN)))).mn
noncomputable def Qmc(v:V5):QC:=(Knb v)+(Knd v)
def Qrm{v:V5}(B:v.O)(f1:¬(v.a.num.sign=0))(hN:¬(nm (Qjy v)=0)):ZL (Qmc v) 44570683:=(Qht (Qnr B f1 hN) (Qnu B f1 hN)).mn
noncomputable def Qty(v:V5):Rat:=(1:Rat)-(nm (Qmc v))
noncomputable def Quu(v:V5):QC:=(Knb v)-(Knd v)
def Kjv{v:V5}(B:v.O)(f1:¬(v.a.num.sign=0))(hN:¬(nm (Qjy v)=0)):ZL (Quu v) 44570683:=(Qec (Qnr B f1 hN) (Qnu B f1 hN)).mn
noncomputable def Qlw(v:V5):List GF:=[cF v.a,cF v.b,cF v.e,cF v.d,(Qan v.z).cells,(Qan (⟨0,0⟩:QC)).cells,[gr v.a,gr v.b,gr v.e,gr v.d],cn v.z,[gr (1:Rat),gr (0:Rat),gr (-1:Rat),gr (1:Rat),gr (-v.z.re),gr v.z.im,gr (nm v.z),gr (Qcl v),gr (Qeu v),gr (Qev v),gr (Qfx v),gxi v.a.num.sign,gxi ((Qcl v).num.sign)],cn (⟨(Qeu v),0⟩:QC),cn (⟨(Qev v),0⟩:QC),cn (⟨0,1⟩:QC),cn (Knj v),cn (Qjy v),[gr (nm (Qjy v))],cn (⟨v.b,0⟩:QC),cn (⟨v.e,0⟩:QC),cn ((⟨v.e,0⟩:QC)*(⟨0,1⟩:QC)),cn (Qdm v),cn ((⟨0,0⟩:QC)-(Qdm v)),[gr (v.a⁻¹)],cn (Qnz v),cn (cj (Qjy v)),cn (Knz v),[gr ((Knz v).re),gr ((Knz v).im),gr (2:Rat),gr (Ues v),gr (Koa v),gr (Uso v),gr (Ulz v)],cn (Usp v),cn (Knb v),[gr (Qam v.a v.b v.e v.d v.a v.b v.e v.d),gr (v.a*v.a),gr (Kcw v),gr (Ubv v),gr (4:Rat),gr (Ubw v),gr (Kun v),gr (Ubx v),gr (Qns v),gr (sqr (Qns v))],cn (Knc v),cn (Knd v),cn (Qmc v),[gr (nm (Qmc v)),gr (Qty v),gxi ((Qty v).num.sign)],(Qan (Qmc v)).cells,cn (Quu v),(Qan (Quu v)).cells,[ga]].flatten
structure Qpy(v:V5):Prop where
 B:v.O
 hz:¬((((1:Rat)-(nm v.z)).num.sign)<=0)
 f0:((wx2 v).num.sign)=0
 f1:¬(v.a.num.sign=0)
 hN:¬(nm (Qjy v)=0)
 hW:Qlh v.a v.b v.e v.d
 f2:((Qcl v).num.sign)=0
noncomputable def Kif(v:V5)(H:Qpy v):List (GC prog (Qlw v) true):=[Qbw eo78,gs (Ukx v H.B H.hz H.f0 H.hW) [lc 2,.row (gL [0,6]),yR 12 8] (.tup [.row (flA [[.fn 245 [] [],.lit (.int .i64 1),.lit (.int .i64 0),.lit (.int .i64 0),.lit (.int .i64 (-1)),.lit (.int .i64 1)],Qbd 20 8]),yR 28 4,sy [32,33],lc 0]),gs (pnr 1) [lc 1,lc 1] (rS 34),gs (pnr 0) [lc 0,lc 1] (rS 35),gs (pnr (-1)) [lc (-1),lc 1] (rS 36),gs (Qhf _ ((Qab H.B.z).mn)) [sy [32,33]] (.r (yR 37 4)),
   gsG (Qnf (1:Rat) (0:Rat) (0:Rat) (-1:Rat) v.a v.b v.e v.d (1:Rat) (-v.z.re) v.z.im (nm v.z) (ri 1) (ri 0) (ri 0) (ri (-1)) (H.B.A.mn) (H.B.B.mn) (H.B.E.mn) (H.B.D.mn) (ri 1) ((Qah ((Qab H.B.z).1)).mn) (((Qab H.B.z).2).mn) ((Qbe (Qab H.B.z)).mn)) 22 ⟨flA [[.sym 34,.sym 35,.sym 35,.sym 36],Qbd 28 4,Qbd 37 4],143,none⟩ [.c (.sl 0 0 3 3)] (.r (yR 41 4)),gs (Qbb v.a) [cS 28] (rS 45),gs (Qbb (Qcl v)) [cS 41] (rS 46),gs (Qdp (Qeu v)) [cS 42] (.r (sy [47,48])),gs (Qdp (Qev v)) [cS 43] (.r (sy [49,50])),gs (Qsp 0 1) [lc 0,lc 1] (.r (sy [51,52])),gs (Qfi _ (⟨0,1⟩:QC) (Qau ((Qgp H.B).upby 1) Qda) (Qbq 0 1) (by decide)) [sy [49,50],sy [51,52]] (.r (sy [53,54])),gs (Qem _ _ (Qau ((Qgo H.B).upby 1) Qda) (Kfx H.B) (by decide)) [sy [47,48],sy [53,54]] (.r (sy [55,56])),gs (Qee _ ((Qfe H.B).mn)) [sy [55,56]] (rS 57),gs (Qdp v.b) [cS 29] (.r (sy [58,59])),gs (Qdp v.e) [cS 30] (.r (sy [60,61])),gs (Qfi _ (⟨0,1⟩:QC) (Qau (H.B.E.upby 1) Qda) (Qbq 0 1) (by decide)) [sy [60,61],sy [51,52]] (.r (sy [62,63])),gs (Qem _ _ (Qau (H.B.B.upby 1) Qda) (Qct (Qau (H.B.E.upby 1) Qda) (Qbq 0 1)) (by decide)) [sy [58,59],sy [62,63]] (.r (sy [64,65])),gs (Kbk _ ((Qbl H.B).mn)) [sy [64,65]] (.r (sy [66,67])),
   Qqg v.a (Qak H.f1) H.B.A (by decide) 57 (.c (.sym 28)) (.sym 68),gs (Qdh _ _ ((Qrr (Qbl H.B)).mn) ((Qca (Qak H.f1) H.B.A).mn)) [sy [66,67],cS 68] (.r (sy [69,70])),gs (Qlk _ ((Qfe H.B).mn)) [sy [55,56]] (.r (sy [71,72])),gs (Qfi _ _ (Qfh H.B H.f1) (Qeg (Qfe H.B)) (by decide)) [sy [69,70],sy [71,72]] (.r (sy [73,74])),gs (Qcr _ ((Kgc H.B H.f1).mn)) [sy [73,74]] (.tup [cS 75,cS 76]),gs (pnr 2) [lc 2,lc 1] (rS 77),gs (Qax _ (2:Rat) ((Qbo (Knz v) (Kgc H.B H.f1)).mn) (ri 2)) [cS 75,cS 77] (rS 78),gs (Qkk _ _ ((Kwd H.B H.f1).mn) ((Qhq H.B).mn)) [cS 78,cS 44] (rS 79),gs (Qax _ (2:Rat) ((Qbe (Qfe H.B)).mn) (ri 2)) [cS 57,cS 77] (rS 80),gs (Qcc _ _ ((Qpc H.B H.f1).mn) ((Kwe H.B).mn) (Qdv H.hN (by decide))) [cS 79,cS 80] (rS 81),gs (Qdh _ _ ((Qfe H.B).mn) ((Kgd H.B H.f1 H.hN).mn)) [sy [55,56],cS 81] (.r (sy [82,83])),gs (Qem _ _ (Qfh H.B H.f1) (Kwf H.B H.f1 H.hN) (by decide)) [sy [69,70],sy [82,83]] (.r (sy [84,85])),gs (Qjq _ _ _ _ _ _ _ _ (H.B.A.mn) (H.B.B.mn) (H.B.E.mn) (H.B.D.mn) (H.B.A.mn) (H.B.B.mn) (H.B.E.mn) (H.B.D.mn)) [yR 28 4,yR 28 4] (rS 86),gs (Qax _ _ (H.B.A.mn) (H.B.A.mn)) [cS 28,cS 28] (rS 87),gs (Qcc _ _ ((Qfn v.a v.b v.e v.d v.a v.b v.e v.d H.B.A H.B.B H.B.E H.B.D H.B.A H.B.B H.B.E H.B.D).mn) ((Qaa v.a v.a H.B.A H.B.A).mn) (Qdv (Qak H.f1) (Qak H.f1))) [cS 86,cS 87] (rS 88),gs (Qax _ _ ((Qpc H.B H.f1).mn) ((Qpc H.B H.f1).mn)) [cS 79,cS 79] (rS 89),gs (pnr 4) [lc 4,lc 1] (rS 90),gs (Qax _ (4:Rat) ((Qbe (Qfe H.B)).mn) (ri 4)) [cS 57,cS 90] (rS 91),gs (Qcc _ _ ((Kjr H.B H.f1).mn) ((Kjs H.B).mn) (Qdv H.hN (by decide))) [cS 89,cS 91] (rS 92),gs (Qcw _ _ ((Qkp H.B H.f1).mn) ((Kjt H.B H.f1 H.hN).mn)) [cS 88,cS 92] (rS 93),gs (Qcc _ _ ((Kju H.B H.f1 H.hN).mn) ((Qbe (Qfe H.B)).mn) H.hN) [cS 93,cS 57] (rS 94)]
noncomputable def Qrf(v:V5)(H:Qpy v)(h0:Qer (Qns v)):List (GC prog (Qlw v) true):=(Kif v H)++[gs (Qwc _ ((Qnt H.B H.f1 H.hN).mn) h0) [cS 94] (.tup [cS 95,cTt]),gs (Qfi _ (⟨0,1⟩:QC) (Qfe H.B) (Qbq 0 1) (by decide)) [sy [55,56],sy [51,52]] (.r (sy [96,97])),gs (Qdh _ _ ((Qyx H.B).mn) ((Qdr (Qnt H.B H.f1 H.hN)).mn)) [sy [96,97],cS 95] (.r (sy [98,99])),gs (Qqh _ _ (Qnr H.B H.f1 H.hN) (Qnu H.B H.f1 H.hN) (by decide)) [sy [84,85],sy [98,99]] (.r (sy [100,101])),gs (Qee _ ((Qrm H.B H.f1 H.hN).mn)) [sy [100,101]] (rS 102),gs (Qcw (1:Rat) _ (ri 1) ((Qbe (Qrm H.B H.f1 H.hN)).mn)) [cS 34,cS 102] (rS 103),gs (Qbb (Qty v)) [cS 103] (rS 104)]
def Kzz(v:V5)(H:Qpy v)(h0:Qer (Qns v))(h1:((Qty v).num.sign)>0)(h2:Qaj (Qmc v)):SCt 23 [gIi 2,.row (rG (⟨v.a,v.b⟩:QC)++rG (⟨v.e,v.d⟩:QC)),.row ((Qan v.z).cells)] (.tup [.row ((Qan (Qmc v)).cells),gIi 0]) :=
  Qas (L := Qlw v) Qae Qai
     ((Qrf v H h0)++[gs (Qej _ ((Qrm H.B H.f1 H.hN).mn) h2) [sy [100,101]] (.tup [yR 105 8,lc 0])])
     [bNt 3 45 H.f1,bNf 3 46 H.f2,bEf 3 45 H.f1,gtY 3 (.sym 104) (li 0) ((Qty v).num.sign) 0 h1] [] Qfp 1 5 func23 eo23 2000 [lc 2,.row (gL [0,6]),yR 12 8] (.tup [yR 105 8,lc 0])
def Uaa(v:V5)(H:Qpy v)(h0:Qer (Qns v))(h1:((Qty v).num.sign)>0)(h2:¬(Qaj (Qmc v))):SCt 23 [gIi 2,.row (rG (⟨v.a,v.b⟩:QC)++rG (⟨v.e,v.d⟩:QC)),.row ((Qan v.z).cells)] (.tup [.row (zGG),gIi 4]) :=
  Qas (L := Qlw v) Qae Qai
     ((Qrf v H h0)++[gs (Qex (Qmc v) ((Qrm H.B H.f1 H.hN).mn) h2) [sy [100,101]] (.tup [.row (zGA),lc 4])])
     [bNt 3 45 H.f1,bNf 3 46 H.f2,bEf 3 45 H.f1,gtY 3 (.sym 104) (li 0) ((Qty v).num.sign) 0 h1] [] Qfp 1 5 func23 eo23 2000 [lc 2,.row (gL [0,6]),yR 12 8] (.tup [.row (zGA),lc 4])
def Uab(v:V5)(H:Qpy v)(h0:Qer (Qns v))(h1:¬(((Qty v).num.sign)>0))(h2:Qaj (Quu v)):SCt 23 [gIi 2,.row (rG (⟨v.a,v.b⟩:QC)++rG (⟨v.e,v.d⟩:QC)),.row ((Qan v.z).cells)] (.tup [.row ((Qan (Quu v)).cells),gIi 0]) :=
  Qas (L := Qlw v) Qae Qai
     ((Qrf v H h0)++[gs (Qem _ _ (Qnr H.B H.f1 H.hN) (Qnu H.B H.f1 H.hN) (by decide)) [sy [84,85],sy [98,99]] (.r (sy [113,114])),gs (Qej _ ((Kjv H.B H.f1 H.hN).mn) h2) [sy [113,114]] (.tup [yR 115 8,lc 0])])
     [bNt 3 45 H.f1,bNf 3 46 H.f2,bEf 3 45 H.f1,gtN 3 (.sym 104) (li 0) ((Qty v).num.sign) 0 h1] [] Qfp 1 5 func23 eo23 2000 [lc 2,.row (gL [0,6]),yR 12 8] (.tup [yR 115 8,lc 0])
def Uac(v:V5)(H:Qpy v)(h0:Qer (Qns v))(h1:¬(((Qty v).num.sign)>0))(h2:¬(Qaj (Quu v))):SCt 23 [gIi 2,.row (rG (⟨v.a,v.b⟩:QC)++rG (⟨v.e,v.d⟩:QC)),.row ((Qan v.z).cells)] (.tup [.row (zGG),gIi 4]) :=
  Qas (L := Qlw v) Qae Qai
     ((Qrf v H h0)++[gs (Qem _ _ (Qnr H.B H.f1 H.hN) (Qnu H.B H.f1 H.hN) (by decide)) [sy [84,85],sy [98,99]] (.r (sy [113,114])),gs (Qex (Quu v) ((Kjv H.B H.f1 H.hN).mn) h2) [sy [113,114]] (.tup [.row (zGA),lc 4])])
     [bNt 3 45 H.f1,bNf 3 46 H.f2,bEf 3 45 H.f1,gtN 3 (.sym 104) (li 0) ((Qty v).num.sign) 0 h1] [] Qfp 1 5 func23 eo23 2000 [lc 2,.row (gL [0,6]),yR 12 8] (.tup [.row (zGA),lc 4])
def Uad(v:V5)(H:Qpy v)(h0:¬(Qer (Qns v))):SCt 23 [gIi 2,.row (rG (⟨v.a,v.b⟩:QC)++rG (⟨v.e,v.d⟩:QC)),.row ((Qan v.z).cells)] (.tup [.row (zGG),gIi 7]) :=
  Qas (L := Qlw v) Qae Qai
     ((Kif v H)++[gs (Qos _ ((Qnt H.B H.f1 H.hN).mn) h0) [cS 94] (.tup [cS 123,cFf])])
     [bNt 3 45 H.f1,bNf 3 46 H.f2,bEf 3 45 H.f1] [] Qfp 1 5 func23 eo23 2000 [lc 2,.row (gL [0,6]),yR 12 8] (.tup [.row (zGA),lc 7])
def Uyf(v:V5):Rat:=((Qcl v)*v.a)-(v.a*(Qcl v))
def Quv(v:V5):Rat:=((Qeu v)*v.a)-(v.b*(Qcl v))
def Kjw{v:V5}(B:v.O):RL (Quv v) 836201:=(Qba ((Qeu v)*v.a) (v.b*(Qcl v)) (Qaa (Qeu v) v.a (Qgo B) (B.A.mn)) ((Qaa v.b (Qcl v) (B.B.mn) (Qde B)).mn)).mn
def Quw(v:V5):Rat:=((Qev v)*v.a)-(v.e*(Qcl v))
def Kjx{v:V5}(B:v.O):RL (Quw v) 836201:=(Qba ((Qev v)*v.a) (v.e*(Qcl v)) (Qaa (Qev v) v.a (Qgp B) (B.A.mn)) ((Qaa v.e (Qcl v) (B.E.mn) (Qde B)).mn)).mn
def Kct(v:V5):Rat:=((Qfx v)*v.a)-(v.d*(Qcl v))
def Kjy{v:V5}(B:v.O):RL (Kct v) 696801:=(Qba ((Qfx v)*v.a) (v.d*(Qcl v)) (Qaa (Qfx v) v.a (Qhq B) (B.A.mn)) (Qaa v.d (Qcl v) (B.D.mn) (Qde B))).mn
def Kcu(v:V5):QC:=(⟨(Quw v),0⟩:QC)*(⟨0,1⟩:QC)
def Kjz{v:V5}(B:v.O):ZL (Kcu v) 1672409:=(Qct (Qau ((Kjx B).upby 1) Qda) (Qbq 0 1)).mn
def Qfw(v:V5):QC:=(⟨(Quv v),0⟩:QC)-(Kcu v)
def Qep{v:V5}(B:v.O):ZL (Qfw v) 2508612:=(Qec (Qau ((Kjw B).upby 1) Qda) (Kjz B)).mn
def Qql(v:V5):QC:=(Qnz v)*(cj (Qfw v))
def Qyy{v:V5}(B:v.O)(f1:¬(v.a.num.sign=0)):ZL (Qql v) 5019291:=(Qct (Qfh B f1) (Qeg (Qep B))).mn
def Kcv(v:V5):Rat:=((Qql v).re)*(2:Rat)
def Kka{v:V5}(B:v.O)(f1:¬(v.a.num.sign=0)):RL (Kcv v) 10038582:=(Qaa ((Qql v).re) (2:Rat) (Qbo (Qql v) (Qyy B f1)) (ri 2)).mn
def Qqm(v:V5):Rat:=(Kcv v)+(Kct v)
def Qlc{v:V5}(B:v.O)(f1:¬(v.a.num.sign=0)):RL (Qqm v) 20077165:=(Qbv (Kcv v) (Kct v) (Kka B f1) ((Kjy B).mn)).mn
def Kuo(v:V5):Rat:=(nm (Qfw v))*(2:Rat)
def Kkb{v:V5}(B:v.O):RL (Kuo v) 20068898:=(Qaa (nm (Qfw v)) (2:Rat) (Qbe (Qep B)) (ri 2)).mn
def Kne(v:V5):Rat:=(Qqm v)/(Kuo v)
def Qyz{v:V5}(B:v.O)(f1:¬(v.a.num.sign=0))(hN:¬(nm (Qfw v)=0)):RL (Kne v) 40146063:=(Qei (Qdv hN (by decide)) (Qlc B f1) (Kkb B)).mn
def Kup(v:V5):QC:=(⟨((Qfw v).re)*(Kne v),((Qfw v).im)*(Kne v)⟩:QC)
def Kkc{v:V5}(B:v.O)(f1:¬(v.a.num.sign=0))(hN:¬(nm (Qfw v)=0)):ZL (Kup v) 42654675:=(Qau (Qad (Qep B).1 (Qyz B f1 hN)) (Qad (Qep B).2 (Qyz B f1 hN))).mn
def Knf(v:V5):QC:=(Qnz v)-(Kup v)
def Qnv{v:V5}(B:v.O)(f1:¬(v.a.num.sign=0))(hN:¬(nm (Qfw v)=0)):ZL (Knf v) 42655709:=(Qec (Qfh B f1) (Kkc B f1 hN)).mn
def Uby(v:V5):Rat:=(Qqm v)*(Qqm v)
def Kkd{v:V5}(B:v.O)(f1:¬(v.a.num.sign=0)):RL (Uby v) 40154330:=(Qaa (Qqm v) (Qqm v) (Qlc B f1) (Qlc B f1)).mn
def Ubz(v:V5):Rat:=(nm (Qfw v))*(4:Rat)
def Kke{v:V5}(B:v.O):RL (Ubz v) 20068898:=(Qaa (nm (Qfw v)) (4:Rat) (Qbe (Qep B)) (ri 4)).mn
def Kuq(v:V5):Rat:=(Uby v)/(Ubz v)
def Kkf{v:V5}(B:v.O)(f1:¬(v.a.num.sign=0))(hN:¬(nm (Qfw v)=0)):RL (Kuq v) 60223228:=(Qei (Qdv hN (by decide)) (Kkd B f1) (Kke B)).mn
def Uca(v:V5):Rat:=(Kcw v)-(Kuq v)
def Kkg{v:V5}(B:v.O)(f1:¬(v.a.num.sign=0))(hN:¬(nm (Qfw v)=0)):RL (Uca v) 120446457:=(Qba (Kcw v) (Kuq v) ((Qkp B f1).mn) (Kkf B f1 hN)).mn
def Qnw(v:V5):Rat:=(Uca v)/(nm (Qfw v))
def Qnx{v:V5}(B:v.O)(f1:¬(v.a.num.sign=0))(hN:¬(nm (Qfw v)=0)):RL (Qnw v) 130480906:=(Qei hN (Kkg B f1 hN) (Qbe (Qep B))).mn
def Kng(v:V5):QC:=(Qfw v)*(⟨0,1⟩:QC)
def Qza{v:V5}(B:v.O):ZL (Kng v) 5017229:=(Qct (Qep B) (Qbq 0 1)).mn
noncomputable def Knh(v:V5):QC:=(⟨((Kng v).re)*(sqr (Qnw v)),((Kng v).im)*(sqr (Qnw v))⟩:QC)
def Qny{v:V5}(B:v.O)(f1:¬(v.a.num.sign=0))(hN:¬(nm (Qfw v)=0)):ZL (Knh v) 135498136:=(Qau (Qad (Qza B).1 (Qdr (Qnx B f1 hN))) (Qad (Qza B).2 (Qdr (Qnx B f1 hN)))).mn
noncomputable def Qmd(v:V5):QC:=(Knf v)+(Knh v)
def Qrn{v:V5}(B:v.O)(f1:¬(v.a.num.sign=0))(hN:¬(nm (Qfw v)=0)):ZL (Qmd v) 178153846:=(Qht (Qnv B f1 hN) (Qny B f1 hN)).mn
noncomputable def Qtz(v:V5):Rat:=(1:Rat)-(nm (Qmd v))
noncomputable def Qux(v:V5):QC:=(Knf v)-(Knh v)
def Kkh{v:V5}(B:v.O)(f1:¬(v.a.num.sign=0))(hN:¬(nm (Qfw v)=0)):ZL (Qux v) 178153846:=(Qec (Qnv B f1 hN) (Qny B f1 hN)).mn
noncomputable def Qly(v:V5):List GF:=[cF v.a,cF v.b,cF v.e,cF v.d,(Qan v.z).cells,(Qan (⟨0,0⟩:QC)).cells,[gr v.a,gr v.b,gr v.e,gr v.d],cn v.z,[gr (1:Rat),gr (0:Rat),gr (-1:Rat),gr (1:Rat),gr (-v.z.re),gr v.z.im,gr (nm v.z),gr (Qcl v),gr (Qeu v),gr (Qev v),gr (Qfx v),gxi v.a.num.sign,gxi ((Qcl v).num.sign),gr ((Qcl v)*v.a),gr (v.a*(Qcl v)),gr (Uyf v),gr ((Qeu v)*v.a),gr (v.b*(Qcl v)),gr (Quv v),gr ((Qev v)*v.a),gr (v.e*(Qcl v)),gr (Quw v),gr ((Qfx v)*v.a),gr (v.d*(Qcl v)),gr (Kct v)],cn (⟨(Quv v),0⟩:QC),cn (⟨(Quw v),0⟩:QC),cn (⟨0,1⟩:QC),cn (Kcu v),cn (Qfw v),[gr (nm (Qfw v))],cn (⟨v.b,0⟩:QC),cn (⟨v.e,0⟩:QC),cn ((⟨v.e,0⟩:QC)*(⟨0,1⟩:QC)),cn (Qdm v),cn ((⟨0,0⟩:QC)-(Qdm v)),[gr (v.a⁻¹)],cn (Qnz v),cn (cj (Qfw v)),cn (Qql v),[gr ((Qql v).re),gr ((Qql v).im),gr (2:Rat),gr (Kcv v),gr (Qqm v),gr (Kuo v),gr (Kne v)],cn (Kup v),cn (Knf v),[gr (Qam v.a v.b v.e v.d v.a v.b v.e v.d),gr (v.a*v.a),gr (Kcw v),gr (Uby v),gr (4:Rat),gr (Ubz v),gr (Kuq v),gr (Uca v),gr (Qnw v),gr (sqr (Qnw v))],cn (Kng v),cn (Knh v),cn (Qmd v),[gr (nm (Qmd v)),gr (Qtz v),gxi ((Qtz v).num.sign)],(Qan (Qmd v)).cells,cn (Qux v),(Qan (Qux v)).cells,[ga]].flatten
structure Qqa(v:V5):Prop where
 B:v.O
 hz:¬((((1:Rat)-(nm v.z)).num.sign)<=0)
 f0:((wx2 v).num.sign)=0
 f1:¬(v.a.num.sign=0)
 hN:¬(nm (Qfw v)=0)
 hW:Qlh v.a v.b v.e v.d
 f2:¬(((Qcl v).num.sign)=0)
noncomputable def Kih(v:V5)(H:Qqa v):List (GC prog (Qly v) true):=[Qbw eo78,gs (Ukx v H.B H.hz H.f0 H.hW) [lc 2,.row (gL [0,6]),yR 12 8] (.tup [.row (flA [[.fn 245 [] [],.lit (.int .i64 1),.lit (.int .i64 0),.lit (.int .i64 0),.lit (.int .i64 (-1)),.lit (.int .i64 1)],Qbd 20 8]),yR 28 4,sy [32,33],lc 0]),gs (pnr 1) [lc 1,lc 1] (rS 34),gs (pnr 0) [lc 0,lc 1] (rS 35),gs (pnr (-1)) [lc (-1),lc 1] (rS 36),gs (Qhf _ ((Qab H.B.z).mn)) [sy [32,33]] (.r (yR 37 4)),
   gsG (Qnf (1:Rat) (0:Rat) (0:Rat) (-1:Rat) v.a v.b v.e v.d (1:Rat) (-v.z.re) v.z.im (nm v.z) (ri 1) (ri 0) (ri 0) (ri (-1)) (H.B.A.mn) (H.B.B.mn) (H.B.E.mn) (H.B.D.mn) (ri 1) ((Qah ((Qab H.B.z).1)).mn) (((Qab H.B.z).2).mn) ((Qbe (Qab H.B.z)).mn)) 22 ⟨flA [[.sym 34,.sym 35,.sym 35,.sym 36],Qbd 28 4,Qbd 37 4],143,none⟩ [.c (.sl 0 0 3 3)] (.r (yR 41 4)),gs (Qbb v.a) [cS 28] (rS 45),gs (Qbb (Qcl v)) [cS 41] (rS 46),gs (Qax _ _ ((Qde H.B).mn) (H.B.A.mn)) [cS 41,cS 28] (rS 47),gs (Qax _ _ (H.B.A.mn) ((Qde H.B).mn)) [cS 28,cS 41] (rS 48),gs (Qcw _ _ ((Qaa (Qcl v) v.a (Qde H.B) (H.B.A.mn)).mn) ((Qaa v.a (Qcl v) (H.B.A.mn) (Qde H.B)).mn)) [cS 47,cS 48] (rS 49),gs (Qax _ _ ((Qgo H.B).mn) (H.B.A.mn)) [cS 42,cS 28] (rS 50),gs (Qax _ _ (H.B.B.mn) ((Qde H.B).mn)) [cS 29,cS 41] (rS 51),gs (Qcw _ _ ((Qaa (Qeu v) v.a (Qgo H.B) (H.B.A.mn)).mn) ((Qaa v.b (Qcl v) (H.B.B.mn) (Qde H.B)).mn)) [cS 50,cS 51] (rS 52),gs (Qax _ _ ((Qgp H.B).mn) (H.B.A.mn)) [cS 43,cS 28] (rS 53),gs (Qax _ _ (H.B.E.mn) ((Qde H.B).mn)) [cS 30,cS 41] (rS 54),gs (Qcw _ _ ((Qaa (Qev v) v.a (Qgp H.B) (H.B.A.mn)).mn) ((Qaa v.e (Qcl v) (H.B.E.mn) (Qde H.B)).mn)) [cS 53,cS 54] (rS 55),gs (Qax _ _ ((Qhq H.B).mn) (H.B.A.mn)) [cS 44,cS 28] (rS 56),gs (Qax _ _ (H.B.D.mn) ((Qde H.B).mn)) [cS 31,cS 41] (rS 57),gs (Qcw _ _ ((Qaa (Qfx v) v.a (Qhq H.B) (H.B.A.mn)).mn) ((Qaa v.d (Qcl v) (H.B.D.mn) (Qde H.B)).mn)) [cS 56,cS 57] (rS 58),gs (Qdp (Quv v)) [cS 52] (.r (sy [59,60])),gs (Qdp (Quw v)) [cS 55] (.r (sy [61,62])),gs (Qsp 0 1) [lc 0,lc 1] (.r (sy [63,64])),gs (Qfi _ (⟨0,1⟩:QC) (Qau ((Kjx H.B).upby 1) Qda) (Qbq 0 1) (by decide)) [sy [61,62],sy [63,64]] (.r (sy [65,66])),gs (Qem _ _ (Qau ((Kjw H.B).upby 1) Qda) (Kjz H.B) (by decide)) [sy [59,60],sy [65,66]] (.r (sy [67,68])),gs (Qee _ ((Qep H.B).mn)) [sy [67,68]] (rS 69),gs (Qdp v.b) [cS 29] (.r (sy [70,71])),gs (Qdp v.e) [cS 30] (.r (sy [72,73])),gs (Qfi _ (⟨0,1⟩:QC) (Qau (H.B.E.upby 1) Qda) (Qbq 0 1) (by decide)) [sy [72,73],sy [63,64]] (.r (sy [74,75])),gs (Qem _ _ (Qau (H.B.B.upby 1) Qda) (Qct (Qau (H.B.E.upby 1) Qda) (Qbq 0 1)) (by decide)) [sy [70,71],sy [74,75]] (.r (sy [76,77])),gs (Kbk _ ((Qbl H.B).mn)) [sy [76,77]] (.r (sy [78,79])),
   Qqg v.a (Qak H.f1) H.B.A (by decide) 57 (.c (.sym 28)) (.sym 80),gs (Qdh _ _ ((Qrr (Qbl H.B)).mn) ((Qca (Qak H.f1) H.B.A).mn)) [sy [78,79],cS 80] (.r (sy [81,82])),gs (Qlk _ ((Qep H.B).mn)) [sy [67,68]] (.r (sy [83,84])),gs (Qfi _ _ (Qfh H.B H.f1) (Qeg (Qep H.B)) (by decide)) [sy [81,82],sy [83,84]] (.r (sy [85,86])),gs (Qcr _ ((Qyy H.B H.f1).mn)) [sy [85,86]] (.tup [cS 87,cS 88]),gs (pnr 2) [lc 2,lc 1] (rS 89),gs (Qax _ (2:Rat) ((Qbo (Qql v) (Qyy H.B H.f1)).mn) (ri 2)) [cS 87,cS 89] (rS 90),gs (Qkk _ _ ((Kka H.B H.f1).mn) ((Kjy H.B).mn)) [cS 90,cS 58] (rS 91),gs (Qax _ (2:Rat) ((Qbe (Qep H.B)).mn) (ri 2)) [cS 69,cS 89] (rS 92),gs (Qcc _ _ ((Qlc H.B H.f1).mn) ((Kkb H.B).mn) (Qdv H.hN (by decide))) [cS 91,cS 92] (rS 93),gs (Qdh _ _ ((Qep H.B).mn) ((Qyz H.B H.f1 H.hN).mn)) [sy [67,68],cS 93] (.r (sy [94,95])),gs (Qem _ _ (Qfh H.B H.f1) (Kkc H.B H.f1 H.hN) (by decide)) [sy [81,82],sy [94,95]] (.r (sy [96,97])),gs (Qjq _ _ _ _ _ _ _ _ (H.B.A.mn) (H.B.B.mn) (H.B.E.mn) (H.B.D.mn) (H.B.A.mn) (H.B.B.mn) (H.B.E.mn) (H.B.D.mn)) [yR 28 4,yR 28 4] (rS 98),gs (Qax _ _ (H.B.A.mn) (H.B.A.mn)) [cS 28,cS 28] (rS 99),gs (Qcc _ _ ((Qfn v.a v.b v.e v.d v.a v.b v.e v.d H.B.A H.B.B H.B.E H.B.D H.B.A H.B.B H.B.E H.B.D).mn) ((Qaa v.a v.a H.B.A H.B.A).mn) (Qdv (Qak H.f1) (Qak H.f1))) [cS 98,cS 99] (rS 100),gs (Qax _ _ ((Qlc H.B H.f1).mn) ((Qlc H.B H.f1).mn)) [cS 91,cS 91] (rS 101),gs (pnr 4) [lc 4,lc 1] (rS 102),gs (Qax _ (4:Rat) ((Qbe (Qep H.B)).mn) (ri 4)) [cS 69,cS 102] (rS 103),gs (Qcc _ _ ((Kkd H.B H.f1).mn) ((Kke H.B).mn) (Qdv H.hN (by decide))) [cS 101,cS 103] (rS 104),gs (Qcw _ _ ((Qkp H.B H.f1).mn) ((Kkf H.B H.f1 H.hN).mn)) [cS 100,cS 104] (rS 105),gs (Qcc _ _ ((Kkg H.B H.f1 H.hN).mn) ((Qbe (Qep H.B)).mn) H.hN) [cS 105,cS 69] (rS 106)]
noncomputable def Qrh(v:V5)(H:Qqa v)(h0:Qer (Qnw v)):List (GC prog (Qly v) true):=(Kih v H)++[gs (Qwc _ ((Qnx H.B H.f1 H.hN).mn) h0) [cS 106] (.tup [cS 107,cTt]),gs (Qfi _ (⟨0,1⟩:QC) (Qep H.B) (Qbq 0 1) (by decide)) [sy [67,68],sy [63,64]] (.r (sy [108,109])),gs (Qdh _ _ ((Qza H.B).mn) ((Qdr (Qnx H.B H.f1 H.hN)).mn)) [sy [108,109],cS 107] (.r (sy [110,111])),gs (Qqh _ _ (Qnv H.B H.f1 H.hN) (Qny H.B H.f1 H.hN) (by decide)) [sy [96,97],sy [110,111]] (.r (sy [112,113])),gs (Qee _ ((Qrn H.B H.f1 H.hN).mn)) [sy [112,113]] (rS 114),gs (Qcw (1:Rat) _ (ri 1) ((Qbe (Qrn H.B H.f1 H.hN)).mn)) [cS 34,cS 114] (rS 115),gs (Qbb (Qtz v)) [cS 115] (rS 116)]
def Uaj(v:V5)(H:Qqa v)(h0:Qer (Qnw v))(h1:((Qtz v).num.sign)>0)(h2:Qaj (Qmd v)):SCt 23 [gIi 2,.row (rG (⟨v.a,v.b⟩:QC)++rG (⟨v.e,v.d⟩:QC)),.row ((Qan v.z).cells)] (.tup [.row ((Qan (Qmd v)).cells),gIi 0]) :=
  Qas (L := Qly v) Qae Qai
     ((Qrh v H h0)++[gs (Qej _ ((Qrn H.B H.f1 H.hN).mn) h2) [sy [112,113]] (.tup [yR 117 8,lc 0])])
     [bNt 3 45 H.f1,bNt 3 46 H.f2,bEf 3 45 H.f1,gtY 3 (.sym 116) (li 0) ((Qtz v).num.sign) 0 h1] [] Qfp 1 5 func23 eo23 2000 [lc 2,.row (gL [0,6]),yR 12 8] (.tup [yR 117 8,lc 0])
def Uak(v:V5)(H:Qqa v)(h0:Qer (Qnw v))(h1:((Qtz v).num.sign)>0)(h2:¬(Qaj (Qmd v))):SCt 23 [gIi 2,.row (rG (⟨v.a,v.b⟩:QC)++rG (⟨v.e,v.d⟩:QC)),.row ((Qan v.z).cells)] (.tup [.row (zGG),gIi 4]) :=
  Qas (L := Qly v) Qae Qai
     ((Qrh v H h0)++[gs (Qex (Qmd v) ((Qrn H.B H.f1 H.hN).mn) h2) [sy [112,113]] (.tup [.row (zGA),lc 4])])
     [bNt 3 45 H.f1,bNt 3 46 H.f2,bEf 3 45 H.f1,gtY 3 (.sym 116) (li 0) ((Qtz v).num.sign) 0 h1] [] Qfp 1 5 func23 eo23 2000 [lc 2,.row (gL [0,6]),yR 12 8] (.tup [.row (zGA),lc 4])
def Ual(v:V5)(H:Qqa v)(h0:Qer (Qnw v))(h1:¬(((Qtz v).num.sign)>0))(h2:Qaj (Qux v)):SCt 23 [gIi 2,.row (rG (⟨v.a,v.b⟩:QC)++rG (⟨v.e,v.d⟩:QC)),.row ((Qan v.z).cells)] (.tup [.row ((Qan (Qux v)).cells),gIi 0]) :=
  Qas (L := Qly v) Qae Qai
     ((Qrh v H h0)++[gs (Qem _ _ (Qnv H.B H.f1 H.hN) (Qny H.B H.f1 H.hN) (by decide)) [sy [96,97],sy [110,111]] (.r (sy [125,126])),gs (Qej _ ((Kkh H.B H.f1 H.hN).mn) h2) [sy [125,126]] (.tup [yR 127 8,lc 0])])
     [bNt 3 45 H.f1,bNt 3 46 H.f2,bEf 3 45 H.f1,gtN 3 (.sym 116) (li 0) ((Qtz v).num.sign) 0 h1] [] Qfp 1 5 func23 eo23 2000 [lc 2,.row (gL [0,6]),yR 12 8] (.tup [yR 127 8,lc 0])
def Uam(v:V5)(H:Qqa v)(h0:Qer (Qnw v))(h1:¬(((Qtz v).num.sign)>0))(h2:¬(Qaj (Qux v))):SCt 23 [gIi 2,.row (rG (⟨v.a,v.b⟩:QC)++rG (⟨v.e,v.d⟩:QC)),.row ((Qan v.z).cells)] (.tup [.row (zGG),gIi 4]) :=
  Qas (L := Qly v) Qae Qai
     ((Qrh v H h0)++[gs (Qem _ _ (Qnv H.B H.f1 H.hN) (Qny H.B H.f1 H.hN) (by decide)) [sy [96,97],sy [110,111]] (.r (sy [125,126])),gs (Qex (Qux v) ((Kkh H.B H.f1 H.hN).mn) h2) [sy [125,126]] (.tup [.row (zGA),lc 4])])
     [bNt 3 45 H.f1,bNt 3 46 H.f2,bEf 3 45 H.f1,gtN 3 (.sym 116) (li 0) ((Qtz v).num.sign) 0 h1] [] Qfp 1 5 func23 eo23 2000 [lc 2,.row (gL [0,6]),yR 12 8] (.tup [.row (zGA),lc 4])
def Uan(v:V5)(H:Qqa v)(h0:¬(Qer (Qnw v))):SCt 23 [gIi 2,.row (rG (⟨v.a,v.b⟩:QC)++rG (⟨v.e,v.d⟩:QC)),.row ((Qan v.z).cells)] (.tup [.row (zGG),gIi 7]) :=
  Qas (L := Qly v) Qae Qai
     ((Kih v H)++[gs (Qos _ ((Qnx H.B H.f1 H.hN).mn) h0) [cS 106] (.tup [cS 135,cFf])])
     [bNt 3 45 H.f1,bNt 3 46 H.f2,bEf 3 45 H.f1] [] Qfp 1 5 func23 eo23 2000 [lc 2,.row (gL [0,6]),yR 12 8] (.tup [.row (zGA),lc 7])
def Uhx(v:V5):List GF:=[cF v.a,cF v.b,cF v.e,cF v.d,(Qan v.z).cells,(Qan (⟨0,0⟩:QC)).cells,[gr v.a,gr v.b,gr v.e,gr v.d],cn v.z,[gr (1:Rat),gr (0:Rat),gr (-1:Rat),gr (1:Rat),gr (-v.z.re),gr v.z.im,gr (nm v.z),gr (Qcl v),gr (Qeu v),gr (Qev v),gr (Qfx v),gxi v.a.num.sign],cn (⟨v.b,0⟩:QC),cn (⟨v.e,0⟩:QC),cn (⟨0,1⟩:QC),cn ((⟨v.e,0⟩:QC)*(⟨0,1⟩:QC)),cn (Qdm v),[gr (nm (Qdm v)),gxi ((Qcl v).num.sign)],cn (⟨0,0⟩:QC),(Qan (⟨0,0⟩:QC)).cells].flatten
structure Upw(v:V5):Prop where
 B:v.O
 hz:¬((((1:Rat)-(nm v.z)).num.sign)<=0)
 f0:((wx2 v).num.sign)=0
 f1:v.a.num.sign=0
 f2:((Qcl v).num.sign)=0
 hW:Qlh v.a v.b v.e v.d
def Uao(v:V5)(H:Upw v):SCt 23 [gIi 2,.row (rG (⟨v.a,v.b⟩:QC)++rG (⟨v.e,v.d⟩:QC)),.row ((Qan v.z).cells)] (.tup [.row ((Qan (⟨0,0⟩:QC)).cells),gIi 0]) :=
  Qas (L := Uhx v) Qae Qai
     [Qbw eo78,gs (Ukx v H.B H.hz H.f0 H.hW) [lc 2,.row (gL [0,6]),yR 12 8] (.tup [.row (flA [[.fn 245 [] [],.lit (.int .i64 1),.lit (.int .i64 0),.lit (.int .i64 0),.lit (.int .i64 (-1)),.lit (.int .i64 1)],Qbd 20 8]),yR 28 4,sy [32,33],lc 0]),gs (pnr 1) [lc 1,lc 1] (rS 34),gs (pnr 0) [lc 0,lc 1] (rS 35),gs (pnr (-1)) [lc (-1),lc 1] (rS 36),gs (Qhf _ ((Qab H.B.z).mn)) [sy [32,33]] (.r (yR 37 4)),
      gsG (Qnf (1:Rat) (0:Rat) (0:Rat) (-1:Rat) v.a v.b v.e v.d (1:Rat) (-v.z.re) v.z.im (nm v.z) (ri 1) (ri 0) (ri 0) (ri (-1)) (H.B.A.mn) (H.B.B.mn) (H.B.E.mn) (H.B.D.mn) (ri 1) ((Qah ((Qab H.B.z).1)).mn) (((Qab H.B.z).2).mn) ((Qbe (Qab H.B.z)).mn)) 22 ⟨flA [[.sym 34,.sym 35,.sym 35,.sym 36],Qbd 28 4,Qbd 37 4],143,none⟩ [.c (.sl 0 0 3 3)] (.r (yR 41 4)),gs (Qbb v.a) [cS 28] (rS 45),gs (Qdp v.b) [cS 29] (.r (sy [46,47])),gs (Qdp v.e) [cS 30] (.r (sy [48,49])),gs (Qsp 0 1) [lc 0,lc 1] (.r (sy [50,51])),gs (Qfi _ (⟨0,1⟩:QC) (Qau (H.B.E.upby 1) Qda) (Qbq 0 1) (by decide)) [sy [48,49],sy [50,51]] (.r (sy [52,53])),gs (Qem _ _ (Qau (H.B.B.upby 1) Qda) (Qct (Qau (H.B.E.upby 1) Qda) (Qbq 0 1)) (by decide)) [sy [46,47],sy [52,53]] (.r (sy [54,55])),gs (Qee _ ((Qbl H.B).mn)) [sy [54,55]] (rS 56),gs (Qbb (Qcl v)) [cS 41] (rS 57),gs (Qsp 0 0) [lc 0,lc 0] (.r (sy [58,59])),gs (Qej (⟨0,0⟩:QC) ((Qbq 0 0).mn) (Qbf dK)) [sy [58,59]] (.tup [yR 60 8,lc 0])]
     [bNf 3 45 H.f1,bEt 3 57 H.f2] [] Qfp 1 5 func23 eo23 2000 [lc 2,.row (gL [0,6]),yR 12 8] (.tup [yR 60 8,lc 0])
structure Qbm where
 n1:Bool
 n2:Bool
 s1:ByteArray
 s2:ByteArray
def Qbm.cells(f:Qbm):List GF:=[gx (.bool f.n1),gx (.string f.s1),gx (.bool f.n2),gx (.string f.s2)]
def Qbx(q:Rat):Qbm:=⟨decide (q.num<0),false,Qcg q.num.natAbs,Qcg q.den⟩
def zRF:Qbm:=⟨false,false,⟨#[]⟩,⟨#[]⟩⟩
def zRG:Qbg:=⟨false,false,false,false,⟨#[]⟩,⟨#[]⟩,⟨#[]⟩,⟨#[]⟩⟩
