/- Laws. -/
import Derived.Test.YtcjjdooeogmdbaaGreatVbm
set_option linter.all false
set_option maxHeartbeats 4000000
set_option maxRecDepth 100000
namespace Go.Proofs.YtcjjdooeogmdbaaGreat
open Go.RowKit Tr Proofs.Tryz
open Classical
def Uyx(v:V5):Rat:=((Qbp v)*v.a)-(v.a*(Qbp v))
def Kxn(v:V5):Rat:=((Qcw v)*v.a)-(v.b*(Qbp v))
def Kwq{v:V5}(B:v.O):RL (Kxn v) 836201:=(Qae ((Qcw v)*v.a) (v.b*(Qbp v)) (Qab (Qcw v) v.a (Qin B) (B.A.mn)) ((Qab v.b (Qbp v) (B.B.mn) (Qdl B)).mn)).mn
def Kxo(v:V5):Rat:=((Qcx v)*v.a)-(v.e*(Qbp v))
def Kwr{v:V5}(B:v.O):RL (Kxo v) 836201:=(Qae ((Qcx v)*v.a) (v.e*(Qbp v)) (Qab (Qcx v) v.a (Qio B) (B.A.mn)) ((Qab v.e (Qbp v) (B.E.mn) (Qdl B)).mn)).mn
def Uem(v:V5):Rat:=((Qdz v)*v.a)-(v.d*(Qbp v))
def Kws{v:V5}(B:v.O):RL (Uem v) 696801:=(Qae ((Qdz v)*v.a) (v.d*(Qbp v)) (Qab (Qdz v) v.a (Qjf B) (B.A.mn)) (Qab v.d (Qbp v) (B.D.mn) (Qdl B))).mn
def Uen(v:V5):QC:=(⟨(Kxo v),0⟩:QC)*(⟨0,1⟩:QC)
def Kwt{v:V5}(B:v.O):ZL (Uen v) 1672409:=(Qcb (Qbk ((Kwr B).upby 1) Qdi) (Qbj 0 1)).mn
def Qnn(v:V5):QC:=(⟨(Kxn v),0⟩:QC)-(Uen v)
def Qge{v:V5}(B:v.O):ZL (Qnn v) 2508612:=(Qbi (Qbk ((Kwq B).upby 1) Qdi) (Kwt B)).mn
def Kqh(v:V5):QC:=(Qpd v)*(cj (Qnn v))
def Khs{v:V5}(B:v.O)(f1:¬(v.a.num.sign=0)):ZL (Kqh v) 5019291:=(Qcb (Qgd B f1) (Qhu (Qge B))).mn
def Ueo(v:V5):Rat:=((Kqh v).re)*(2:Rat)
def Kwu{v:V5}(B:v.O)(f1:¬(v.a.num.sign=0)):RL (Ueo v) 10038582:=(Qab ((Kqh v).re) (2:Rat) (Qbf (Kqh v) (Khs B f1)) (ri 2)).mn
def Kqi(v:V5):Rat:=(Ueo v)+(Uem v)
def Qqj{v:V5}(B:v.O)(f1:¬(v.a.num.sign=0)):RL (Kqi v) 20077165:=(Qaw (Ueo v) (Uem v) (Kwu B f1) ((Kws B).mn)).mn
def Upa(v:V5):Rat:=(nm (Qnn v))*(2:Rat)
def Kwv{v:V5}(B:v.O):RL (Upa v) 20068898:=(Qab (nm (Qnn v)) (2:Rat) (Qal (Qge B)) (ri 2)).mn
def Ujt(v:V5):Rat:=(Kqi v)/(Upa v)
def Kht{v:V5}(B:v.O)(f1:¬(v.a.num.sign=0))(hN:¬(nm (Qnn v)=0)):RL (Ujt v) 40146063:=(Qbb (Qga hN (by decide)) (Qqj B f1) (Kwv B)).mn
def Upb(v:V5):QC:=(⟨((Qnn v).re)*(Ujt v),((Qnn v).im)*(Ujt v)⟩:QC)
def Kww{v:V5}(B:v.O)(f1:¬(v.a.num.sign=0))(hN:¬(nm (Qnn v)=0)):ZL (Upb v) 42654675:=(Qbk (Qam (Qge B).1 (Kht B f1 hN)) (Qam (Qge B).2 (Kht B f1 hN))).mn
def Uju(v:V5):QC:=(Qpd v)-(Upb v)
def Quv{v:V5}(B:v.O)(f1:¬(v.a.num.sign=0))(hN:¬(nm (Qnn v)=0)):ZL (Uju v) 42655709:=(Qbi (Qgd B f1) (Kww B f1 hN)).mn
def Uqn(v:V5):Rat:=(Kqi v)*(Kqi v)
def Kwx{v:V5}(B:v.O)(f1:¬(v.a.num.sign=0)):RL (Uqn v) 40154330:=(Qab (Kqi v) (Kqi v) (Qqj B f1) (Qqj B f1)).mn
def Uqo(v:V5):Rat:=(nm (Qnn v))*(4:Rat)
def Kwy{v:V5}(B:v.O):RL (Uqo v) 20068898:=(Qab (nm (Qnn v)) (4:Rat) (Qal (Qge B)) (ri 4)).mn
def Upc(v:V5):Rat:=(Uqn v)/(Uqo v)
def Kwz{v:V5}(B:v.O)(f1:¬(v.a.num.sign=0))(hN:¬(nm (Qnn v)=0)):RL (Upc v) 60223228:=(Qbb (Qga hN (by decide)) (Kwx B f1) (Kwy B)).mn
def Uqp(v:V5):Rat:=(Keu v)-(Upc v)
def Kxa{v:V5}(B:v.O)(f1:¬(v.a.num.sign=0))(hN:¬(nm (Qnn v)=0)):RL (Uqp v) 120446457:=(Qae (Keu v) (Upc v) ((Qlt B f1).mn) (Kwz B f1 hN)).mn
def Kxb(v:V5):Rat:=(Uqp v)/(nm (Qnn v))
def Qnl{v:V5}(B:v.O)(f1:¬(v.a.num.sign=0))(hN:¬(nm (Qnn v)=0)):RL (Kxb v) 130480906:=(Qbb hN (Kxa B f1 hN) (Qal (Qge B))).mn
def Ujv(v:V5):QC:=(Qnn v)*(⟨0,1⟩:QC)
def Kaw{v:V5}(B:v.O):ZL (Ujv v) 5017229:=(Qcb (Qge B) (Qbj 0 1)).mn
noncomputable def Ujw(v:V5):QC:=(⟨((Ujv v).re)*(sqr (Kxb v)),((Ujv v).im)*(sqr (Kxb v))⟩:QC)
def Quw{v:V5}(B:v.O)(f1:¬(v.a.num.sign=0))(hN:¬(nm (Qnn v)=0)):ZL (Ujw v) 135498136:=(Qbk (Qam (Kaw B).1 (Qdr (Qnl B f1 hN))) (Qam (Kaw B).2 (Qdr (Qnl B f1 hN)))).mn
noncomputable def Kax(v:V5):QC:=(Uju v)+(Ujw v)
def Khu{v:V5}(B:v.O)(f1:¬(v.a.num.sign=0))(hN:¬(nm (Qnn v)=0)):ZL (Kax v) 178153846:=(Qmq (Quv B f1 hN) (Quw B f1 hN)).mn
noncomputable def Ucd(v:V5):QC:=(Uju v)-(Ujw v)
def Uiw{v:V5}(B:v.O)(f1:¬(v.a.num.sign=0))(hN:¬(nm (Qnn v)=0)):ZL (Ucd v) 178153846:=(Qbi (Quv B f1 hN) (Quw B f1 hN)).mn
noncomputable def Qza(v:V5):List GF:=[cF v.a,cF v.b,cF v.e,cF v.d,(Qah v.z).cells,(Qah (⟨0,1⟩:QC)).cells,(Qah (⟨0,0⟩:QC)).cells,cn v.z,[gr v.z.re,gr v.z.im,gxi v.z.im.num.sign,gr v.a,gr v.b,gr v.e,gr v.d,gr (0:Rat),gr (1:Rat),gr (Qkz v),gxi ((Qkz v).num.sign),gr (1:Rat),gr (-v.z.re),gr v.z.im,gr (nm v.z),gr (Qbp v),gr (Qcw v),gr (Qcx v),gr (Qdz v),gxi v.a.num.sign,gxi ((Qbp v).num.sign),gr ((Qbp v)*v.a),gr (v.a*(Qbp v)),gr (Uyx v),gr ((Qcw v)*v.a),gr (v.b*(Qbp v)),gr (Kxn v),gr ((Qcx v)*v.a),gr (v.e*(Qbp v)),gr (Kxo v),gr ((Qdz v)*v.a),gr (v.d*(Qbp v)),gr (Uem v)],cn (⟨(Kxn v),0⟩:QC),cn (⟨(Kxo v),0⟩:QC),cn (⟨0,1⟩:QC),cn (Uen v),cn (Qnn v),[gr (nm (Qnn v))],cn (⟨v.b,0⟩:QC),cn (⟨v.e,0⟩:QC),cn ((⟨v.e,0⟩:QC)*(⟨0,1⟩:QC)),cn (Qdt v),cn ((⟨0,0⟩:QC)-(Qdt v)),[gr (v.a⁻¹)],cn (Qpd v),cn (cj (Qnn v)),cn (Kqh v),[gr ((Kqh v).re),gr ((Kqh v).im),gr (2:Rat),gr (Ueo v),gr (Kqi v),gr (Upa v),gr (Ujt v)],cn (Upb v),cn (Uju v),[gr (Qao v.a v.b v.e v.d v.a v.b v.e v.d),gr (v.a*v.a),gr (Keu v),gr (Uqn v),gr (4:Rat),gr (Uqo v),gr (Upc v),gr (Uqp v),gr (Kxb v),gr (sqr (Kxb v))],cn (Ujv v),cn (Ujw v),cn (Kax v),[gr ((Kax v).re),gr ((Kax v).im),gxi (((Kax v).im).num.sign)],(Qah (Kax v)).cells,cn (Ucd v),(Qah (Ucd v)).cells,[ga]].flatten
structure Kcw(v:V5):Prop where
 B:v.O
 hz:¬(v.z.im.num.sign<=0)
 f0:((Qkz v).num.sign)=0
 f1:¬(v.a.num.sign=0)
 f2:¬(((Qbp v).num.sign)=0)
 hN:¬(nm (Qnn v)=0)
 y0:Qac (Kax v)
 y1:Qac (Ucd v)
 hW:Qvm v.a v.b v.e v.d
noncomputable def Qzb(v:V5)(H:Kcw v):List (GC prog (Qza v) true):=[Qfk eo45,gpi 0 1 20,gpi 0 0 28,gs (Qew v.z H.B.z) [yR 12 8] (.tup [sy [36,37],cTt]),gs (Qbs _ ((Qaa H.B.z).mn)) [sy [36,37]] (.tup [cS 38,cS 39]),gs (Qau v.z.im) [cS 39] (rS 40),gs (Kmw v.a v.b v.e v.d (H.B.A.mn) (H.B.B.mn) (H.B.E.mn) (H.B.D.mn) H.hW) [.row (gL [0,6])] (.r (lc 0)),gs (Qct v.a H.B.a) [yQ 0] (rS 41),gs (Qct v.b H.B.b) [yQ 3] (rS 42),gs (Qct v.e H.B.e) [yQ 6] (rS 43),gs (Qct v.d H.B.d) [yQ 9] (rS 44),gs (pnr 0) [lc 0,lc 1] (rS 45),gs (pnr 1) [lc 1,lc 1] (rS 46),gs (Qgx _ _ _ _ (0:Rat) (0:Rat) (1:Rat) (0:Rat) (H.B.A.mn) (H.B.B.mn) (H.B.E.mn) (H.B.D.mn) (ri 0) (ri 0) (ri 1) (ri 0)) [yR 41 4,.row [.sym 45,.sym 45,.sym 46,.sym 45]] (rS 47),gs (Qau (Qkz v)) [cS 47] (rS 48),gs (Qfc _ ((Qaa H.B.z).mn)) [sy [36,37]] (.r (yR 49 4)),
   gsG (Qln (0:Rat) (0:Rat) (1:Rat) (0:Rat) v.a v.b v.e v.d (1:Rat) (-v.z.re) v.z.im (nm v.z) (ri 0) (ri 0) (ri 1) (ri 0) (H.B.A.mn) (H.B.B.mn) (H.B.E.mn) (H.B.D.mn) (ri 1) ((Qbq ((Qaa H.B.z).1)).mn) (((Qaa H.B.z).2).mn) ((Qal (Qaa H.B.z)).mn)) 22 ⟨flA [[.sym 45,.sym 45,.sym 46,.sym 45],Qba 41 4,Qba 49 4],89,none⟩ [.c (.sl 0 0 3 3)] (.r (yR 53 4)),gs (Qau v.a) [cS 41] (rS 57),gs (Qau (Qbp v)) [cS 53] (rS 58),gs (Qan _ _ ((Qdl H.B).mn) (H.B.A.mn)) [cS 53,cS 41] (rS 59),gs (Qan _ _ (H.B.A.mn) ((Qdl H.B).mn)) [cS 41,cS 53] (rS 60),gs (Qaz _ _ ((Qab (Qbp v) v.a (Qdl H.B) (H.B.A.mn)).mn) ((Qab v.a (Qbp v) (H.B.A.mn) (Qdl H.B)).mn)) [cS 59,cS 60] (rS 61),gs (Qan _ _ ((Qin H.B).mn) (H.B.A.mn)) [cS 54,cS 41] (rS 62),gs (Qan _ _ (H.B.B.mn) ((Qdl H.B).mn)) [cS 42,cS 53] (rS 63),gs (Qaz _ _ ((Qab (Qcw v) v.a (Qin H.B) (H.B.A.mn)).mn) ((Qab v.b (Qbp v) (H.B.B.mn) (Qdl H.B)).mn)) [cS 62,cS 63] (rS 64),gs (Qan _ _ ((Qio H.B).mn) (H.B.A.mn)) [cS 55,cS 41] (rS 65),gs (Qan _ _ (H.B.E.mn) ((Qdl H.B).mn)) [cS 43,cS 53] (rS 66),gs (Qaz _ _ ((Qab (Qcx v) v.a (Qio H.B) (H.B.A.mn)).mn) ((Qab v.e (Qbp v) (H.B.E.mn) (Qdl H.B)).mn)) [cS 65,cS 66] (rS 67),gs (Qan _ _ ((Qjf H.B).mn) (H.B.A.mn)) [cS 56,cS 41] (rS 68),gs (Qan _ _ (H.B.D.mn) ((Qdl H.B).mn)) [cS 44,cS 53] (rS 69),gs (Qaz _ _ ((Qab (Qdz v) v.a (Qjf H.B) (H.B.A.mn)).mn) ((Qab v.d (Qbp v) (H.B.D.mn) (Qdl H.B)).mn)) [cS 68,cS 69] (rS 70),gs (Qdw (Kxn v)) [cS 64] (.r (sy [71,72])),gs (Qdw (Kxo v)) [cS 67] (.r (sy [73,74])),gs (Qtf 0 1) [lc 0,lc 1] (.r (sy [75,76])),gs (Qex _ (⟨0,1⟩:QC) (Qbk ((Kwr H.B).upby 1) Qdi) (Qbj 0 1) (by decide)) [sy [73,74],sy [75,76]] (.r (sy [77,78])),gs (Qeo _ _ (Qbk ((Kwq H.B).upby 1) Qdi) (Kwt H.B) (by decide)) [sy [71,72],sy [77,78]] (.r (sy [79,80])),gs (Qbw _ ((Qge H.B).mn)) [sy [79,80]] (rS 81),gs (Qdw v.b) [cS 42] (.r (sy [82,83])),gs (Qdw v.e) [cS 43] (.r (sy [84,85])),gs (Qex _ (⟨0,1⟩:QC) (Qbk (H.B.E.upby 1) Qdi) (Qbj 0 1) (by decide)) [sy [84,85],sy [75,76]] (.r (sy [86,87])),gs (Qeo _ _ (Qbk (H.B.B.upby 1) Qdi) (Qcb (Qbk (H.B.E.upby 1) Qdi) (Qbj 0 1)) (by decide)) [sy [82,83],sy [86,87]] (.r (sy [88,89])),gs (Kda _ ((Qbg H.B).mn)) [sy [88,89]] (.r (sy [90,91])),
   Qyh v.a (Qbo H.f1) H.B.A (by decide) 57 (.c (.sym 41)) (.sym 92),gs (Qcz _ _ ((Qxu (Qbg H.B)).mn) ((Qdn (Qbo H.f1) H.B.A).mn)) [sy [90,91],cS 92] (.r (sy [93,94])),gs (Qmr _ ((Qge H.B).mn)) [sy [79,80]] (.r (sy [95,96])),gs (Qex _ _ (Qgd H.B H.f1) (Qhu (Qge H.B)) (by decide)) [sy [93,94],sy [95,96]] (.r (sy [97,98])),gs (Qbs _ ((Khs H.B H.f1).mn)) [sy [97,98]] (.tup [cS 99,cS 100]),gs (pnr 2) [lc 2,lc 1] (rS 101),gs (Qan _ (2:Rat) ((Qbf (Kqh v) (Khs H.B H.f1)).mn) (ri 2)) [cS 99,cS 101] (rS 102),gs (Qfz _ _ ((Kwu H.B H.f1).mn) ((Kws H.B).mn)) [cS 102,cS 70] (rS 103),gs (Qan _ (2:Rat) ((Qal (Qge H.B)).mn) (ri 2)) [cS 81,cS 101] (rS 104),gs (Qbe _ _ ((Qqj H.B H.f1).mn) ((Kwv H.B).mn) (Qga H.hN (by decide))) [cS 103,cS 104] (rS 105),gs (Qcz _ _ ((Qge H.B).mn) ((Kht H.B H.f1 H.hN).mn)) [sy [79,80],cS 105] (.r (sy [106,107])),gs (Qeo _ _ (Qgd H.B H.f1) (Kww H.B H.f1 H.hN) (by decide)) [sy [93,94],sy [106,107]] (.r (sy [108,109])),gs (Qgx _ _ _ _ _ _ _ _ (H.B.A.mn) (H.B.B.mn) (H.B.E.mn) (H.B.D.mn) (H.B.A.mn) (H.B.B.mn) (H.B.E.mn) (H.B.D.mn)) [yR 41 4,yR 41 4] (rS 110),gs (Qan _ _ (H.B.A.mn) (H.B.A.mn)) [cS 41,cS 41] (rS 111),gs (Qbe _ _ ((Qgn v.a v.b v.e v.d v.a v.b v.e v.d H.B.A H.B.B H.B.E H.B.D H.B.A H.B.B H.B.E H.B.D).mn) ((Qab v.a v.a H.B.A H.B.A).mn) (Qga (Qbo H.f1) (Qbo H.f1))) [cS 110,cS 111] (rS 112),gs (Qan _ _ ((Qqj H.B H.f1).mn) ((Qqj H.B H.f1).mn)) [cS 103,cS 103] (rS 113),gs (pnr 4) [lc 4,lc 1] (rS 114),gs (Qan _ (4:Rat) ((Qal (Qge H.B)).mn) (ri 4)) [cS 81,cS 114] (rS 115),gs (Qbe _ _ ((Kwx H.B H.f1).mn) ((Kwy H.B).mn) (Qga H.hN (by decide))) [cS 113,cS 115] (rS 116),gs (Qaz _ _ ((Qlt H.B H.f1).mn) ((Kwz H.B H.f1 H.hN).mn)) [cS 112,cS 116] (rS 117),gs (Qbe _ _ ((Kxa H.B H.f1 H.hN).mn) ((Qal (Qge H.B)).mn) H.hN) [cS 117,cS 81] (rS 118)]
def Uah(v:V5)(H:Kcw v)(h0:Qjx (Kxb v))(h1:(((Kax v).im).num.sign)>0):SCt 10 [gIi 1,.row (rG (⟨v.a,v.b⟩:QC)++rG (⟨v.e,v.d⟩:QC)),.row ((Qah v.z).cells)] (.tup [.row ((Qah (Kax v)).cells),gIi 0]) :=
  Qbn (L := Qza v) Qai Qap
     ((Qzb v H)++[gs (Qkw _ ((Qnl H.B H.f1 H.hN).mn) h0) [cS 118] (.tup [cS 119,cTt]),gs (Qex _ (⟨0,1⟩:QC) (Qge H.B) (Qbj 0 1) (by decide)) [sy [79,80],sy [75,76]] (.r (sy [120,121])),gs (Qcz _ _ ((Kaw H.B).mn) ((Qdr (Qnl H.B H.f1 H.hN)).mn)) [sy [120,121],cS 119] (.r (sy [122,123])),gs (Qkx _ _ (Quv H.B H.f1 H.hN) (Quw H.B H.f1 H.hN) (by decide)) [sy [108,109],sy [122,123]] (.r (sy [124,125])),gs (Qbs _ ((Khu H.B H.f1 H.hN).mn)) [sy [124,125]] (.tup [cS 126,cS 127]),gs (Qau ((Kax v).im)) [cS 127] (rS 128),gs (Qez _ ((Khu H.B H.f1 H.hN).mn) H.y0) [sy [124,125]] (.tup [yR 129 8,lc 0])])
     [bI .leq 3 (.sym 40) (li 0) v.z.im.num.sign 0 false (by simp only[Qch];exact congrArg some (decide_eq_false H.hz)),bI .neq 3 (.sym 48) (li 0) ((Qkz v).num.sign) 0 false (by simp[Qch,H.f0]),bI .neq 3 (.sym 57) (li 0) v.a.num.sign 0 true (by simp[Qch,H.f1]),bI .neq 3 (.sym 58) (li 0) ((Qbp v).num.sign) 0 true (by simp[Qch,H.f2]),bI .eql 3 (.sym 57) (li 0) v.a.num.sign 0 false (by simp[Qch,H.f1]),gtY 3 (.sym 128) (li 0) (((Kax v).im).num.sign) 0 h1] [] Qku 1 5 func10 eo10 2000 [lc 1,.row (gL [0,6]),yR 12 8] (.tup [yR 129 8,lc 0])
def Uai(v:V5)(H:Kcw v)(h0:Qjx (Kxb v))(h1:¬((((Kax v).im).num.sign)>0)):SCt 10 [gIi 1,.row (rG (⟨v.a,v.b⟩:QC)++rG (⟨v.e,v.d⟩:QC)),.row ((Qah v.z).cells)] (.tup [.row ((Qah (Ucd v)).cells),gIi 0]) :=
  Qbn (L := Qza v) Qai Qap
     ((Qzb v H)++[gs (Qkw _ ((Qnl H.B H.f1 H.hN).mn) h0) [cS 118] (.tup [cS 119,cTt]),gs (Qex _ (⟨0,1⟩:QC) (Qge H.B) (Qbj 0 1) (by decide)) [sy [79,80],sy [75,76]] (.r (sy [120,121])),gs (Qcz _ _ ((Kaw H.B).mn) ((Qdr (Qnl H.B H.f1 H.hN)).mn)) [sy [120,121],cS 119] (.r (sy [122,123])),gs (Qkx _ _ (Quv H.B H.f1 H.hN) (Quw H.B H.f1 H.hN) (by decide)) [sy [108,109],sy [122,123]] (.r (sy [124,125])),gs (Qbs _ ((Khu H.B H.f1 H.hN).mn)) [sy [124,125]] (.tup [cS 126,cS 127]),gs (Qau ((Kax v).im)) [cS 127] (rS 128),gs (Qeo _ _ (Quv H.B H.f1 H.hN) (Quw H.B H.f1 H.hN) (by decide)) [sy [108,109],sy [122,123]] (.r (sy [137,138])),gs (Qez _ ((Uiw H.B H.f1 H.hN).mn) H.y1) [sy [137,138]] (.tup [yR 139 8,lc 0])])
     [bI .leq 3 (.sym 40) (li 0) v.z.im.num.sign 0 false (by simp only[Qch];exact congrArg some (decide_eq_false H.hz)),bI .neq 3 (.sym 48) (li 0) ((Qkz v).num.sign) 0 false (by simp[Qch,H.f0]),bI .neq 3 (.sym 57) (li 0) v.a.num.sign 0 true (by simp[Qch,H.f1]),bI .neq 3 (.sym 58) (li 0) ((Qbp v).num.sign) 0 true (by simp[Qch,H.f2]),bI .eql 3 (.sym 57) (li 0) v.a.num.sign 0 false (by simp[Qch,H.f1]),gtN 3 (.sym 128) (li 0) (((Kax v).im).num.sign) 0 h1] [] Qku 1 5 func10 eo10 2000 [lc 1,.row (gL [0,6]),yR 12 8] (.tup [yR 139 8,lc 0])
def Uaj(v:V5)(H:Kcw v)(h0:¬(Qjx (Kxb v))):SCt 10 [gIi 1,.row (rG (⟨v.a,v.b⟩:QC)++rG (⟨v.e,v.d⟩:QC)),.row ((Qah v.z).cells)] (.tup [.row (zGG),gIi 7]) :=
  Qbn (L := Qza v) Qai Qap
     ((Qzb v H)++[gs (Qqa _ ((Qnl H.B H.f1 H.hN).mn) h0) [cS 118] (.tup [cS 147,cFf])])
     [bI .leq 3 (.sym 40) (li 0) v.z.im.num.sign 0 false (by simp only[Qch];exact congrArg some (decide_eq_false H.hz)),bI .neq 3 (.sym 48) (li 0) ((Qkz v).num.sign) 0 false (by simp[Qch,H.f0]),bI .neq 3 (.sym 57) (li 0) v.a.num.sign 0 true (by simp[Qch,H.f1]),bI .neq 3 (.sym 58) (li 0) ((Qbp v).num.sign) 0 true (by simp[Qch,H.f2]),bI .eql 3 (.sym 57) (li 0) v.a.num.sign 0 false (by simp[Qch,H.f1])] [] Qku 1 5 func10 eo10 2000 [lc 1,.row (gL [0,6]),yR 12 8] (.tup [.row (zGA),lc 7])
def Kpk(v:V5):QC:=(⟨(Qcv v),0⟩:QC)*(⟨0,1⟩:QC)
def Khv{v:V5}(B:v.O):ZL (Kpk v) 418107:=(Qcb (Qbk ((Qiq B).upby 1) Qdi) (Qbj 0 1)).mn
def Qlb(v:V5):QC:=(⟨(Qcu v),0⟩:QC)-(Kpk v)
def Qfr{v:V5}(B:v.O):ZL (Qlb v) 627159:=(Qbi (Qbk ((Qip B).upby 1) Qdi) (Khv B)).mn
def Uep(v:V5):QC:=(⟨0,0⟩:QC)-(Qlb v)
def Khw{v:V5}(B:v.O):ZL (Uep v) 627159:=(Qxu (Qfr B)).mn
def Ueq(v:V5):QC:=(⟨((Uep v).re)*((Qbm v)⁻¹),((Uep v).im)*((Qbm v)⁻¹)⟩:QC)
def Kay{v:V5}(B:v.O)(f2:¬(((Qbm v).num.sign)=0)):ZL (Ueq v) 801359:=(Qbk (Qam (Khw B).1 (Qdn (Qbo f2) (Qdm B))) (Qam (Khw B).2 (Qdn (Qbo f2) (Qdm B)))).mn
def Kqj(v:V5):QC:=(Ueq v)*(cj (Qdt v))
def Khx{v:V5}(B:v.O)(f2:¬(((Qbm v).num.sign)=0)):ZL (Kqj v) 1604273:=(Qcb (Kay B f2) (Qhu (Qbg B))).mn
def Kaz(v:V5):Rat:=((Kqj v).re)*(2:Rat)
def Qnm{v:V5}(B:v.O)(f2:¬(((Qbm v).num.sign)=0)):RL (Kaz v) 3208546:=(Qab ((Kqj v).re) (2:Rat) (Qbf (Kqj v) (Khx B f2)) (ri 2)).mn
def Ujx(v:V5):Rat:=((Kaz v)+v.d)/((nm (Qdt v))*(2:Rat))
def Khy{v:V5}(B:v.O)(f2:¬(((Qbm v).num.sign)=0))(hN:¬(nm (Qdt v)=0)):RL (Ujx v) 6423311:=(Qbb (Qga hN (by decide)) (Qaw (Kaz v) v.d (Qnm B f2) (B.D.mn)) (Qab (nm (Qdt v)) (2:Rat) (Qal (Qbg B)) (ri 2))).mn
def Upd(v:V5):QC:=(⟨((Qdt v).re)*(Ujx v),((Qdt v).im)*(Ujx v)⟩:QC)
def Kxc{v:V5}(B:v.O)(f2:¬(((Qbm v).num.sign)=0))(hN:¬(nm (Qdt v)=0)):ZL (Upd v) 6424088:=(Qbk (Qam (Qbg B).1 (Khy B f2 hN)) (Qam (Qbg B).2 (Khy B f2 hN))).mn
def Ujy(v:V5):QC:=(Ueq v)-(Upd v)
def Qux{v:V5}(B:v.O)(f2:¬(((Qbm v).num.sign)=0))(hN:¬(nm (Qdt v)=0)):ZL (Ujy v) 7225448:=(Qbi (Kay B f2) (Kxc B f2 hN)).mn
def Uqq(v:V5):Rat:=Qao (Qbm v) (Qcu v) (Qcv v) (Qdx v) (Qbm v) (Qcu v) (Qcv v) (Qdx v)
def Kxd{v:V5}(B:v.O):RL (Uqq v) 3344809:=(Qgn (Qbm v) (Qcu v) (Qcv v) (Qdx v) (Qbm v) (Qcu v) (Qcv v) (Qdx v) ((Qdm B).mn) (Qip B) (Qiq B) ((Qjg B).mn) ((Qdm B).mn) (Qip B) (Qiq B) ((Qjg B).mn)).mn
def Uqr(v:V5):Rat:=(Qbm v)*(Qbm v)
def Kxe{v:V5}(B:v.O):RL (Uqr v) 348400:=(Qab (Qbm v) (Qbm v) (Qdm B) (Qdm B)).mn
def Upe(v:V5):Rat:=(Uqq v)/(Uqr v)
def Kxf{v:V5}(B:v.O)(f2:¬(((Qbm v).num.sign)=0)):RL (Upe v) 3693209:=(Qbb (Qga (Qbo f2) (Qbo f2)) (Kxd B) (Kxe B)).mn
def Uqs(v:V5):Rat:=((Kaz v)+v.d)*((Kaz v)+v.d)
def Kxg{v:V5}(B:v.O)(f2:¬(((Qbm v).num.sign)=0)):RL (Uqs v) 12834186:=(Qab ((Kaz v)+v.d) ((Kaz v)+v.d) (Qaw (Kaz v) v.d (Qnm B f2) (B.D.mn)) (Qaw (Kaz v) v.d (Qnm B f2) (B.D.mn))).mn
def Upf(v:V5):Rat:=(Uqs v)/((nm (Qdt v))*(4:Rat))
def Kxh{v:V5}(B:v.O)(f2:¬(((Qbm v).num.sign)=0))(hN:¬(nm (Qdt v)=0)):RL (Upf v) 12840404:=(Qbb (Qga hN (by decide)) (Kxg B f2) (Qab (nm (Qdt v)) (4:Rat) (Qal (Qbg B)) (ri 4))).mn
def Ubs(v:V5):Rat:=(Upe v)-(Upf v)
def Klv{v:V5}(B:v.O)(f2:¬(((Qbm v).num.sign)=0))(hN:¬(nm (Qdt v)=0)):RL (Ubs v) 25680809:=(Qae (Upe v) (Upf v) ((Kxf B f2).mn) (Kxh B f2 hN)).mn
def Qum(v:V5):Rat:=(Ubs v)/(nm (Qdt v))
def Qkr{v:V5}(B:v.O)(f2:¬(((Qbm v).num.sign)=0))(hN:¬(nm (Qdt v)=0)):RL (Qum v) 25683918:=(Qbb hN (Klv B f2 hN) (Qal (Qbg B))).mn
noncomputable def Koy(v:V5):QC:=(⟨(((Qdt v)*(⟨0,1⟩:QC)).re)*(sqr (Qum v)),(((Qdt v)*(⟨0,1⟩:QC)).im)*(sqr (Qum v))⟩:QC)
def Qov{v:V5}(B:v.O)(f2:¬(((Qbm v).num.sign)=0))(hN:¬(nm (Qdt v)=0)):ZL (Koy v) 25685478:=(Qbk (Qam (Qcb (Qbg B) (Qbj 0 1)).1 (Qdr (Qkr B f2 hN))) (Qam (Qcb (Qbg B) (Qbj 0 1)).2 (Qdr (Qkr B f2 hN)))).mn
noncomputable def Qre(v:V5):QC:=(Ujy v)+(Koy v)
def Qow{v:V5}(B:v.O)(f2:¬(((Qbm v).num.sign)=0))(hN:¬(nm (Qdt v)=0)):ZL (Qre v) 32910927:=(Qmq (Qux B f2 hN) (Qov B f2 hN)).mn
noncomputable def Ken(v:V5):Rat:=(1:Rat)-(nm (Qre v))
noncomputable def Kal(v:V5):QC:=(Ujy v)-(Koy v)
def Ubt{v:V5}(B:v.O)(f2:¬(((Qbm v).num.sign)=0))(hN:¬(nm (Qdt v)=0)):ZL (Kal v) 32910927:=(Qbi (Qux B f2 hN) (Qov B f2 hN)).mn
noncomputable def Qze(v:V5):List GF:=[cF v.a,cF v.b,cF v.e,cF v.d,(Qah v.z).cells,(Qah (⟨0,1⟩:QC)).cells,(Qah (⟨0,0⟩:QC)).cells,cn v.z,[gr (1:Rat),gr (nm v.z),gr ((1:Rat)-(nm v.z)),gxi (((1:Rat)-(nm v.z)).num.sign),gr v.a,gr v.b,gr v.e,gr v.d,gr (0:Rat),gr (-1:Rat),gr (Qjw v),gxi ((Qjw v).num.sign),gr (1:Rat),gr (-v.z.re),gr v.z.im,gr (nm v.z),gr (Qbm v),gr (Qcu v),gr (Qcv v),gr (Qdx v),gxi v.a.num.sign],cn (⟨v.b,0⟩:QC),cn (⟨v.e,0⟩:QC),cn (⟨0,1⟩:QC),cn ((⟨v.e,0⟩:QC)*(⟨0,1⟩:QC)),cn (Qdt v),[gr (nm (Qdt v)),gxi ((Qbm v).num.sign)],cn (⟨(Qcu v),0⟩:QC),cn (⟨(Qcv v),0⟩:QC),cn (Kpk v),cn (Qlb v),cn (Uep v),[gr ((Qbm v)⁻¹)],cn (Ueq v),cn (cj (Qdt v)),cn (Kqj v),[gr ((Kqj v).re),gr ((Kqj v).im),gr (2:Rat),gr (Kaz v),gr ((Kaz v)+v.d),gr ((nm (Qdt v))*(2:Rat)),gr (Ujx v)],cn (Upd v),cn (Ujy v),[gr (Uqq v),gr (Uqr v),gr (Upe v),gr (Uqs v),gr (4:Rat),gr ((nm (Qdt v))*(4:Rat)),gr (Upf v),gr (Ubs v),gr (Qum v),gr (sqr (Qum v))],cn ((Qdt v)*(⟨0,1⟩:QC)),cn (Koy v),cn (Qre v),[gr (nm (Qre v)),gr (Ken v),gxi ((Ken v).num.sign)],(Qah (Qre v)).cells,cn (Kal v),(Qah (Kal v)).cells,[ga]].flatten
structure Kcy(v:V5):Prop where
 B:v.O
 hz:¬((((1:Rat)-(nm v.z)).num.sign)<=0)
 f0:((Qjw v).num.sign)=0
 f1:v.a.num.sign=0
 f2:¬(((Qbm v).num.sign)=0)
 hN:¬(nm (Qdt v)=0)
 y0:Qac (Qre v)
 y1:Qac (Kal v)
 hW:Qvm v.a v.b v.e v.d
noncomputable def Qzf(v:V5)(H:Kcy v):List (GC prog (Qze v) true):=[Qfk eo45,gpi 0 1 20,gpi 0 0 28,gs (Qew v.z H.B.z) [yR 12 8] (.tup [sy [36,37],cTt]),gs (pnr 1) [lc 1,lc 1] (rS 38),gs (Qbw _ ((Qaa H.B.z).mn)) [sy [36,37]] (rS 39),gs (Qaz (1:Rat) _ (ri 1) ((Qal (Qaa H.B.z)).mn)) [cS 38,cS 39] (rS 40),gs (Qau ((1:Rat)-(nm v.z))) [cS 40] (rS 41),gs (Kmw v.a v.b v.e v.d (H.B.A.mn) (H.B.B.mn) (H.B.E.mn) (H.B.D.mn) H.hW) [.row (gL [0,6])] (.r (lc 0)),gs (Qct v.a H.B.a) [yQ 0] (rS 42),gs (Qct v.b H.B.b) [yQ 3] (rS 43),gs (Qct v.e H.B.e) [yQ 6] (rS 44),gs (Qct v.d H.B.d) [yQ 9] (rS 45),gs (pnr 0) [lc 0,lc 1] (rS 46),gs (pnr (-1)) [lc (-1),lc 1] (rS 47),gs (Qgx _ _ _ _ (1:Rat) (0:Rat) (0:Rat) (-1:Rat) (H.B.A.mn) (H.B.B.mn) (H.B.E.mn) (H.B.D.mn) (ri 1) (ri 0) (ri 0) (ri (-1))) [yR 42 4,.row [.sym 38,.sym 46,.sym 46,.sym 47]] (rS 48),gs (Qau (Qjw v)) [cS 48] (rS 49),gs (Qfc _ ((Qaa H.B.z).mn)) [sy [36,37]] (.r (yR 50 4)),
   gsG (Qln (1:Rat) (0:Rat) (0:Rat) (-1:Rat) v.a v.b v.e v.d (1:Rat) (-v.z.re) v.z.im (nm v.z) (ri 1) (ri 0) (ri 0) (ri (-1)) (H.B.A.mn) (H.B.B.mn) (H.B.E.mn) (H.B.D.mn) (ri 1) ((Qbq ((Qaa H.B.z).1)).mn) (((Qaa H.B.z).2).mn) ((Qal (Qaa H.B.z)).mn)) 22 ⟨flA [[.sym 38,.sym 46,.sym 46,.sym 47],Qba 42 4,Qba 50 4],89,none⟩ [.c (.sl 0 0 3 3)] (.r (yR 54 4)),gs (Qau v.a) [cS 42] (rS 58),gs (Qdw v.b) [cS 43] (.r (sy [59,60])),gs (Qdw v.e) [cS 44] (.r (sy [61,62])),gs (Qtf 0 1) [lc 0,lc 1] (.r (sy [63,64])),gs (Qex _ (⟨0,1⟩:QC) (Qbk (H.B.E.upby 1) Qdi) (Qbj 0 1) (by decide)) [sy [61,62],sy [63,64]] (.r (sy [65,66])),gs (Qeo _ _ (Qbk (H.B.B.upby 1) Qdi) (Qcb (Qbk (H.B.E.upby 1) Qdi) (Qbj 0 1)) (by decide)) [sy [59,60],sy [65,66]] (.r (sy [67,68])),gs (Qbw _ ((Qbg H.B).mn)) [sy [67,68]] (rS 69),gs (Qau (Qbm v)) [cS 54] (rS 70),gs (Qdw (Qcu v)) [cS 55] (.r (sy [71,72])),gs (Qdw (Qcv v)) [cS 56] (.r (sy [73,74])),gs (Qex _ (⟨0,1⟩:QC) (Qbk ((Qiq H.B).upby 1) Qdi) (Qbj 0 1) (by decide)) [sy [73,74],sy [63,64]] (.r (sy [75,76])),gs (Qeo _ _ (Qbk ((Qip H.B).upby 1) Qdi) (Khv H.B) (by decide)) [sy [71,72],sy [75,76]] (.r (sy [77,78])),gs (Kda _ ((Qfr H.B).mn)) [sy [77,78]] (.r (sy [79,80])),
   Qyh (Qbm v) (Qbo H.f2) (Qdm H.B) (by decide) 57 (.c (.sym 54)) (.sym 81),gs (Qcz _ _ ((Khw H.B).mn) ((Qdn (Qbo H.f2) (Qdm H.B)).mn)) [sy [79,80],cS 81] (.r (sy [82,83])),gs (Qmr _ ((Qbg H.B).mn)) [sy [67,68]] (.r (sy [84,85])),gs (Qex _ _ (Kay H.B H.f2) (Qhu (Qbg H.B)) (by decide)) [sy [82,83],sy [84,85]] (.r (sy [86,87])),gs (Qbs _ ((Khx H.B H.f2).mn)) [sy [86,87]] (.tup [cS 88,cS 89]),gs (pnr 2) [lc 2,lc 1] (rS 90),gs (Qan _ (2:Rat) ((Qbf (Kqj v) (Khx H.B H.f2)).mn) (ri 2)) [cS 88,cS 90] (rS 91),gs (Qfz _ _ ((Qnm H.B H.f2).mn) (H.B.D.mn)) [cS 91,cS 45] (rS 92),gs (Qan _ (2:Rat) ((Qal (Qbg H.B)).mn) (ri 2)) [cS 69,cS 90] (rS 93),gs (Qbe _ _ ((Qaw (Kaz v) v.d (Qnm H.B H.f2) (H.B.D.mn)).mn) ((Qab (nm (Qdt v)) (2:Rat) (Qal (Qbg H.B)) (ri 2)).mn) (Qga H.hN (by decide))) [cS 92,cS 93] (rS 94),gs (Qcz _ _ ((Qbg H.B).mn) ((Khy H.B H.f2 H.hN).mn)) [sy [67,68],cS 94] (.r (sy [95,96])),gs (Qeo _ _ (Kay H.B H.f2) (Kxc H.B H.f2 H.hN) (by decide)) [sy [82,83],sy [95,96]] (.r (sy [97,98])),gs (Qgx _ _ _ _ _ _ _ _ ((Qdm H.B).mn) ((Qip H.B).mn) ((Qiq H.B).mn) ((Qjg H.B).mn) ((Qdm H.B).mn) ((Qip H.B).mn) ((Qiq H.B).mn) ((Qjg H.B).mn)) [yR 54 4,yR 54 4] (rS 99),gs (Qan _ _ ((Qdm H.B).mn) ((Qdm H.B).mn)) [cS 54,cS 54] (rS 100),gs (Qbe _ _ ((Kxd H.B).mn) ((Kxe H.B).mn) (Qga (Qbo H.f2) (Qbo H.f2))) [cS 99,cS 100] (rS 101),gs (Qan _ _ ((Qaw (Kaz v) v.d (Qnm H.B H.f2) (H.B.D.mn)).mn) ((Qaw (Kaz v) v.d (Qnm H.B H.f2) (H.B.D.mn)).mn)) [cS 92,cS 92] (rS 102),gs (pnr 4) [lc 4,lc 1] (rS 103),gs (Qan _ (4:Rat) ((Qal (Qbg H.B)).mn) (ri 4)) [cS 69,cS 103] (rS 104),gs (Qbe _ _ ((Kxg H.B H.f2).mn) ((Qab (nm (Qdt v)) (4:Rat) (Qal (Qbg H.B)) (ri 4)).mn) (Qga H.hN (by decide))) [cS 102,cS 104] (rS 105),gs (Qaz _ _ ((Kxf H.B H.f2).mn) ((Kxh H.B H.f2 H.hN).mn)) [cS 101,cS 105] (rS 106),gs (Qbe _ _ ((Klv H.B H.f2 H.hN).mn) ((Qal (Qbg H.B)).mn) H.hN) [cS 106,cS 69] (rS 107)]
def Uan(v:V5)(H:Kcy v)(h0:Qjx (Qum v))(h1:((Ken v).num.sign)>0):SCt 10 [gIi 2,.row (rG (⟨v.a,v.b⟩:QC)++rG (⟨v.e,v.d⟩:QC)),.row ((Qah v.z).cells)] (.tup [.row ((Qah (Qre v)).cells),gIi 0]) :=
  Qbn (L := Qze v) Qai Qap
     ((Qzf v H)++[gs (Qkw _ ((Qkr H.B H.f2 H.hN).mn) h0) [cS 107] (.tup [cS 108,cTt]),gs (Qex _ (⟨0,1⟩:QC) (Qbg H.B) (Qbj 0 1) (by decide)) [sy [67,68],sy [63,64]] (.r (sy [109,110])),gs (Qcz _ _ ((Qcb (Qbg H.B) (Qbj 0 1)).mn) ((Qdr (Qkr H.B H.f2 H.hN)).mn)) [sy [109,110],cS 108] (.r (sy [111,112])),gs (Qkx _ _ (Qux H.B H.f2 H.hN) (Qov H.B H.f2 H.hN) (by decide)) [sy [97,98],sy [111,112]] (.r (sy [113,114])),gs (Qbw _ ((Qow H.B H.f2 H.hN).mn)) [sy [113,114]] (rS 115),gs (Qaz (1:Rat) _ (ri 1) ((Qal (Qow H.B H.f2 H.hN)).mn)) [cS 38,cS 115] (rS 116),gs (Qau (Ken v)) [cS 116] (rS 117),gs (Qez _ ((Qow H.B H.f2 H.hN).mn) H.y0) [sy [113,114]] (.tup [yR 118 8,lc 0])])
     [bI .leq 3 (.sym 41) (li 0) (((1:Rat)-(nm v.z)).num.sign) 0 false (by simp only[Qch];exact congrArg some (decide_eq_false H.hz)),bI .neq 3 (.sym 49) (li 0) ((Qjw v).num.sign) 0 false (by simp[Qch,H.f0]),bI .neq 3 (.sym 58) (li 0) v.a.num.sign 0 false (by simp[Qch,H.f1]),bI .eql 3 (.sym 70) (li 0) ((Qbm v).num.sign) 0 false (by simp[Qch,H.f2]),gtY 3 (.sym 117) (li 0) ((Ken v).num.sign) 0 h1] [] Qku 1 5 func10 eo10 2000 [lc 2,.row (gL [0,6]),yR 12 8] (.tup [yR 118 8,lc 0])
def Uao(v:V5)(H:Kcy v)(h0:Qjx (Qum v))(h1:¬(((Ken v).num.sign)>0)):SCt 10 [gIi 2,.row (rG (⟨v.a,v.b⟩:QC)++rG (⟨v.e,v.d⟩:QC)),.row ((Qah v.z).cells)] (.tup [.row ((Qah (Kal v)).cells),gIi 0]) :=
  Qbn (L := Qze v) Qai Qap
     ((Qzf v H)++[gs (Qkw _ ((Qkr H.B H.f2 H.hN).mn) h0) [cS 107] (.tup [cS 108,cTt]),gs (Qex _ (⟨0,1⟩:QC) (Qbg H.B) (Qbj 0 1) (by decide)) [sy [67,68],sy [63,64]] (.r (sy [109,110])),gs (Qcz _ _ ((Qcb (Qbg H.B) (Qbj 0 1)).mn) ((Qdr (Qkr H.B H.f2 H.hN)).mn)) [sy [109,110],cS 108] (.r (sy [111,112])),gs (Qkx _ _ (Qux H.B H.f2 H.hN) (Qov H.B H.f2 H.hN) (by decide)) [sy [97,98],sy [111,112]] (.r (sy [113,114])),gs (Qbw _ ((Qow H.B H.f2 H.hN).mn)) [sy [113,114]] (rS 115),gs (Qaz (1:Rat) _ (ri 1) ((Qal (Qow H.B H.f2 H.hN)).mn)) [cS 38,cS 115] (rS 116),gs (Qau (Ken v)) [cS 116] (rS 117),gs (Qeo _ _ (Qux H.B H.f2 H.hN) (Qov H.B H.f2 H.hN) (by decide)) [sy [97,98],sy [111,112]] (.r (sy [126,127])),gs (Qez _ ((Ubt H.B H.f2 H.hN).mn) H.y1) [sy [126,127]] (.tup [yR 128 8,lc 0])])
     [bI .leq 3 (.sym 41) (li 0) (((1:Rat)-(nm v.z)).num.sign) 0 false (by simp only[Qch];exact congrArg some (decide_eq_false H.hz)),bI .neq 3 (.sym 49) (li 0) ((Qjw v).num.sign) 0 false (by simp[Qch,H.f0]),bI .neq 3 (.sym 58) (li 0) v.a.num.sign 0 false (by simp[Qch,H.f1]),bI .eql 3 (.sym 70) (li 0) ((Qbm v).num.sign) 0 false (by simp[Qch,H.f2]),gtN 3 (.sym 117) (li 0) ((Ken v).num.sign) 0 h1] [] Qku 1 5 func10 eo10 2000 [lc 2,.row (gL [0,6]),yR 12 8] (.tup [yR 128 8,lc 0])
def Uap(v:V5)(H:Kcy v)(h0:¬(Qjx (Qum v))):SCt 10 [gIi 2,.row (rG (⟨v.a,v.b⟩:QC)++rG (⟨v.e,v.d⟩:QC)),.row ((Qah v.z).cells)] (.tup [.row (zGG),gIi 7]) :=
  Qbn (L := Qze v) Qai Qap
     ((Qzf v H)++[gs (Qqa _ ((Qkr H.B H.f2 H.hN).mn) h0) [cS 107] (.tup [cS 136,cFf])])
     [bI .leq 3 (.sym 41) (li 0) (((1:Rat)-(nm v.z)).num.sign) 0 false (by simp only[Qch];exact congrArg some (decide_eq_false H.hz)),bI .neq 3 (.sym 49) (li 0) ((Qjw v).num.sign) 0 false (by simp[Qch,H.f0]),bI .neq 3 (.sym 58) (li 0) v.a.num.sign 0 false (by simp[Qch,H.f1]),bI .eql 3 (.sym 70) (li 0) ((Qbm v).num.sign) 0 false (by simp[Qch,H.f2])] [] Qku 1 5 func10 eo10 2000 [lc 2,.row (gL [0,6]),yR 12 8] (.tup [.row (zGA),lc 7])
