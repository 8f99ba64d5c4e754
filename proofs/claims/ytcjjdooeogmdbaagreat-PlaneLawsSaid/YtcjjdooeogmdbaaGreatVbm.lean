/- Laws. -/
import Derived.Test.YtcjjdooeogmdbaaGreatVbl
set_option linter.all false
set_option maxHeartbeats 4000000
set_option maxRecDepth 100000
namespace Go.Proofs.YtcjjdooeogmdbaaGreat
open Go.RowKit Tr Proofs.Tryz
open Classical
def Qga{x y:Rat}(h:x≠0)(k:y≠0):x*y≠0:=by grind
def Qdt(v:V5):QC:=(⟨v.b,0⟩:QC)-((⟨v.e,0⟩:QC)*(⟨0,1⟩:QC))
def Qbg{v:V5}(B:v.O):ZL (Qdt v) 777:=(Qbi (Qbk (B.B.upby 1) Qdi) (Qcb (Qbk (B.E.upby 1) Qdi) (Qbj 0 1))).mn
def Kpi(v:V5):QC:=(⟨(Qcx v),0⟩:QC)*(⟨0,1⟩:QC)
def Khk{v:V5}(B:v.O):ZL (Kpi v) 418107:=(Qcb (Qbk ((Qio B).upby 1) Qdi) (Qbj 0 1)).mn
def Qla(v:V5):QC:=(⟨(Qcw v),0⟩:QC)-(Kpi v)
def Qfq{v:V5}(B:v.O):ZL (Qla v) 627159:=(Qbi (Qbk ((Qin B).upby 1) Qdi) (Khk B)).mn
def Uei(v:V5):QC:=(⟨0,0⟩:QC)-(Qla v)
def Khl{v:V5}(B:v.O):ZL (Uei v) 627159:=(Qxu (Qfq B)).mn
def Uej(v:V5):QC:=(⟨((Uei v).re)*((Qbp v)⁻¹),((Uei v).im)*((Qbp v)⁻¹)⟩:QC)
def Kas{v:V5}(B:v.O)(f2:¬(((Qbp v).num.sign)=0)):ZL (Uej v) 801359:=(Qbk (Qam (Khl B).1 (Qdn (Qbo f2) (Qdl B))) (Qam (Khl B).2 (Qdn (Qbo f2) (Qdl B)))).mn
def Kqe(v:V5):QC:=(Uej v)*(cj (Qdt v))
def Khm{v:V5}(B:v.O)(f2:¬(((Qbp v).num.sign)=0)):ZL (Kqe v) 1604273:=(Qcb (Kas B f2) (Qhu (Qbg B))).mn
def Kat(v:V5):Rat:=((Kqe v).re)*(2:Rat)
def Qni{v:V5}(B:v.O)(f2:¬(((Qbp v).num.sign)=0)):RL (Kat v) 3208546:=(Qab ((Kqe v).re) (2:Rat) (Qbf (Kqe v) (Khm B f2)) (ri 2)).mn
def Ujn(v:V5):Rat:=((Kat v)+v.d)/((nm (Qdt v))*(2:Rat))
def Khn{v:V5}(B:v.O)(f2:¬(((Qbp v).num.sign)=0))(hN:¬(nm (Qdt v)=0)):RL (Ujn v) 6423311:=(Qbb (Qga hN (by decide)) (Qaw (Kat v) v.d (Qni B f2) (B.D.mn)) (Qab (nm (Qdt v)) (2:Rat) (Qal (Qbg B)) (ri 2))).mn
def Uos(v:V5):QC:=(⟨((Qdt v).re)*(Ujn v),((Qdt v).im)*(Ujn v)⟩:QC)
def Kwa{v:V5}(B:v.O)(f2:¬(((Qbp v).num.sign)=0))(hN:¬(nm (Qdt v)=0)):ZL (Uos v) 6424088:=(Qbk (Qam (Qbg B).1 (Khn B f2 hN)) (Qam (Qbg B).2 (Khn B f2 hN))).mn
def Ujo(v:V5):QC:=(Uej v)-(Uos v)
def Qur{v:V5}(B:v.O)(f2:¬(((Qbp v).num.sign)=0))(hN:¬(nm (Qdt v)=0)):ZL (Ujo v) 7225448:=(Qbi (Kas B f2) (Kwa B f2 hN)).mn
def Uqg(v:V5):Rat:=Qao (Qbp v) (Qcw v) (Qcx v) (Qdz v) (Qbp v) (Qcw v) (Qcx v) (Qdz v)
def Kwb{v:V5}(B:v.O):RL (Uqg v) 3344809:=(Qgn (Qbp v) (Qcw v) (Qcx v) (Qdz v) (Qbp v) (Qcw v) (Qcx v) (Qdz v) ((Qdl B).mn) (Qin B) (Qio B) ((Qjf B).mn) ((Qdl B).mn) (Qin B) (Qio B) ((Qjf B).mn)).mn
def Uqh(v:V5):Rat:=(Qbp v)*(Qbp v)
def Kwc{v:V5}(B:v.O):RL (Uqh v) 348400:=(Qab (Qbp v) (Qbp v) (Qdl B) (Qdl B)).mn
def Uot(v:V5):Rat:=(Uqg v)/(Uqh v)
def Kwd{v:V5}(B:v.O)(f2:¬(((Qbp v).num.sign)=0)):RL (Uot v) 3693209:=(Qbb (Qga (Qbo f2) (Qbo f2)) (Kwb B) (Kwc B)).mn
def Uqi(v:V5):Rat:=((Kat v)+v.d)*((Kat v)+v.d)
def Kwe{v:V5}(B:v.O)(f2:¬(((Qbp v).num.sign)=0)):RL (Uqi v) 12834186:=(Qab ((Kat v)+v.d) ((Kat v)+v.d) (Qaw (Kat v) v.d (Qni B f2) (B.D.mn)) (Qaw (Kat v) v.d (Qni B f2) (B.D.mn))).mn
def Uou(v:V5):Rat:=(Uqi v)/((nm (Qdt v))*(4:Rat))
def Kwf{v:V5}(B:v.O)(f2:¬(((Qbp v).num.sign)=0))(hN:¬(nm (Qdt v)=0)):RL (Uou v) 12840404:=(Qbb (Qga hN (by decide)) (Kwe B f2) (Qab (nm (Qdt v)) (4:Rat) (Qal (Qbg B)) (ri 4))).mn
def Uqj(v:V5):Rat:=(Uot v)-(Uou v)
def Kwg{v:V5}(B:v.O)(f2:¬(((Qbp v).num.sign)=0))(hN:¬(nm (Qdt v)=0)):RL (Uqj v) 25680809:=(Qae (Uot v) (Uou v) ((Kwd B f2).mn) (Kwf B f2 hN)).mn
def Kpj(v:V5):Rat:=(Uqj v)/(nm (Qdt v))
def Qnj{v:V5}(B:v.O)(f2:¬(((Qbp v).num.sign)=0))(hN:¬(nm (Qdt v)=0)):RL (Kpj v) 25683918:=(Qbb hN (Kwg B f2 hN) (Qal (Qbg B))).mn
noncomputable def Uek(v:V5):QC:=(⟨(((Qdt v)*(⟨0,1⟩:QC)).re)*(sqr (Kpj v)),(((Qdt v)*(⟨0,1⟩:QC)).im)*(sqr (Kpj v))⟩:QC)
def Qus{v:V5}(B:v.O)(f2:¬(((Qbp v).num.sign)=0))(hN:¬(nm (Qdt v)=0)):ZL (Uek v) 25685478:=(Qbk (Qam (Qcb (Qbg B) (Qbj 0 1)).1 (Qdr (Qnj B f2 hN))) (Qam (Qcb (Qbg B) (Qbj 0 1)).2 (Qdr (Qnj B f2 hN)))).mn
noncomputable def Qvj(v:V5):QC:=(Ujo v)+(Uek v)
def Kho{v:V5}(B:v.O)(f2:¬(((Qbp v).num.sign)=0))(hN:¬(nm (Qdt v)=0)):ZL (Qvj v) 32910927:=(Qmq (Qur B f2 hN) (Qus B f2 hN)).mn
noncomputable def Kwh(v:V5):QC:=(Ujo v)-(Uek v)
def Uiu{v:V5}(B:v.O)(f2:¬(((Qbp v).num.sign)=0))(hN:¬(nm (Qdt v)=0)):ZL (Kwh v) 32910927:=(Qbi (Qur B f2 hN) (Qus B f2 hN)).mn
def Qku:FnsOk prog [⟨71,Tryz.f71,2000⟩,⟨41,Tryz.f41,2000⟩,⟨103,Tryz.f103,2000⟩,⟨184,Tryz.f184,2000⟩,⟨185,Tryz.f185,2000⟩,⟨107,Tryz.f107,2000⟩,⟨85,Tryz.f85,2000⟩,⟨44,Tryz.f44,2000⟩,⟨46,Tryz.f46,2000⟩,⟨42,Tryz.f42,2000⟩,⟨50,Tryz.f50,2000⟩]:=(Kiz (Kfq (Qmv (Qmw (Qmx (Qmp (Kfr (Knd (Uta (Uqa (Uxr .nil)))))))))))
noncomputable def Qyy(v:V5):List GF:=[cF v.a,cF v.b,cF v.e,cF v.d,(Qah v.z).cells,(Qah (⟨0,1⟩:QC)).cells,(Qah (⟨0,0⟩:QC)).cells,cn v.z,[gr v.z.re,gr v.z.im,gxi v.z.im.num.sign,gr v.a,gr v.b,gr v.e,gr v.d,gr (0:Rat),gr (1:Rat),gr (Qkz v),gxi ((Qkz v).num.sign),gr (1:Rat),gr (-v.z.re),gr v.z.im,gr (nm v.z),gr (Qbp v),gr (Qcw v),gr (Qcx v),gr (Qdz v),gxi v.a.num.sign],cn (⟨v.b,0⟩:QC),cn (⟨v.e,0⟩:QC),cn (⟨0,1⟩:QC),cn ((⟨v.e,0⟩:QC)*(⟨0,1⟩:QC)),cn (Qdt v),[gr (nm (Qdt v)),gxi ((Qbp v).num.sign)],cn (⟨(Qcw v),0⟩:QC),cn (⟨(Qcx v),0⟩:QC),cn (Kpi v),cn (Qla v),cn (Uei v),[gr ((Qbp v)⁻¹)],cn (Uej v),cn (cj (Qdt v)),cn (Kqe v),[gr ((Kqe v).re),gr ((Kqe v).im),gr (2:Rat),gr (Kat v),gr ((Kat v)+v.d),gr ((nm (Qdt v))*(2:Rat)),gr (Ujn v)],cn (Uos v),cn (Ujo v),[gr (Uqg v),gr (Uqh v),gr (Uot v),gr (Uqi v),gr (4:Rat),gr ((nm (Qdt v))*(4:Rat)),gr (Uou v),gr (Uqj v),gr (Kpj v),gr (sqr (Kpj v))],cn ((Qdt v)*(⟨0,1⟩:QC)),cn (Uek v),cn (Qvj v),[gr ((Qvj v).re),gr ((Qvj v).im),gxi (((Qvj v).im).num.sign)],(Qah (Qvj v)).cells,cn (Kwh v),(Qah (Kwh v)).cells,[ga]].flatten
structure Kcv(v:V5):Prop where
 B:v.O
 hz:¬(v.z.im.num.sign<=0)
 f0:((Qkz v).num.sign)=0
 f1:v.a.num.sign=0
 f2:¬(((Qbp v).num.sign)=0)
 hN:¬(nm (Qdt v)=0)
 y0:Qac (Qvj v)
 y1:Qac (Kwh v)
 hW:Qvm v.a v.b v.e v.d
noncomputable def Qyz(v:V5)(H:Kcv v):List (GC prog (Qyy v) true):=[Qfk eo45,gpi 0 1 20,gpi 0 0 28,gs (Qew v.z H.B.z) [yR 12 8] (.tup [sy [36,37],cTt]),gs (Qbs _ ((Qaa H.B.z).mn)) [sy [36,37]] (.tup [cS 38,cS 39]),gs (Qau v.z.im) [cS 39] (rS 40),gs (Kmw v.a v.b v.e v.d (H.B.A.mn) (H.B.B.mn) (H.B.E.mn) (H.B.D.mn) H.hW) [.row (gL [0,6])] (.r (lc 0)),gs (Qct v.a H.B.a) [yQ 0] (rS 41),gs (Qct v.b H.B.b) [yQ 3] (rS 42),gs (Qct v.e H.B.e) [yQ 6] (rS 43),gs (Qct v.d H.B.d) [yQ 9] (rS 44),gs (pnr 0) [lc 0,lc 1] (rS 45),gs (pnr 1) [lc 1,lc 1] (rS 46),gs (Qgx _ _ _ _ (0:Rat) (0:Rat) (1:Rat) (0:Rat) (H.B.A.mn) (H.B.B.mn) (H.B.E.mn) (H.B.D.mn) (ri 0) (ri 0) (ri 1) (ri 0)) [yR 41 4,.row [.sym 45,.sym 45,.sym 46,.sym 45]] (rS 47),gs (Qau (Qkz v)) [cS 47] (rS 48),gs (Qfc _ ((Qaa H.B.z).mn)) [sy [36,37]] (.r (yR 49 4)),
   gsG (Qln (0:Rat) (0:Rat) (1:Rat) (0:Rat) v.a v.b v.e v.d (1:Rat) (-v.z.re) v.z.im (nm v.z) (ri 0) (ri 0) (ri 1) (ri 0) (H.B.A.mn) (H.B.B.mn) (H.B.E.mn) (H.B.D.mn) (ri 1) ((Qbq ((Qaa H.B.z).1)).mn) (((Qaa H.B.z).2).mn) ((Qal (Qaa H.B.z)).mn)) 22 ⟨flA [[.sym 45,.sym 45,.sym 46,.sym 45],Qba 41 4,Qba 49 4],89,none⟩ [.c (.sl 0 0 3 3)] (.r (yR 53 4)),gs (Qau v.a) [cS 41] (rS 57),gs (Qdw v.b) [cS 42] (.r (sy [58,59])),gs (Qdw v.e) [cS 43] (.r (sy [60,61])),gs (Qtf 0 1) [lc 0,lc 1] (.r (sy [62,63])),gs (Qex _ (⟨0,1⟩:QC) (Qbk (H.B.E.upby 1) Qdi) (Qbj 0 1) (by decide)) [sy [60,61],sy [62,63]] (.r (sy [64,65])),gs (Qeo _ _ (Qbk (H.B.B.upby 1) Qdi) (Qcb (Qbk (H.B.E.upby 1) Qdi) (Qbj 0 1)) (by decide)) [sy [58,59],sy [64,65]] (.r (sy [66,67])),gs (Qbw _ ((Qbg H.B).mn)) [sy [66,67]] (rS 68),gs (Qau (Qbp v)) [cS 53] (rS 69),gs (Qdw (Qcw v)) [cS 54] (.r (sy [70,71])),gs (Qdw (Qcx v)) [cS 55] (.r (sy [72,73])),gs (Qex _ (⟨0,1⟩:QC) (Qbk ((Qio H.B).upby 1) Qdi) (Qbj 0 1) (by decide)) [sy [72,73],sy [62,63]] (.r (sy [74,75])),gs (Qeo _ _ (Qbk ((Qin H.B).upby 1) Qdi) (Khk H.B) (by decide)) [sy [70,71],sy [74,75]] (.r (sy [76,77])),gs (Kda _ ((Qfq H.B).mn)) [sy [76,77]] (.r (sy [78,79])),
   Qyh (Qbp v) (Qbo H.f2) (Qdl H.B) (by decide) 57 (.c (.sym 53)) (.sym 80),gs (Qcz _ _ ((Khl H.B).mn) ((Qdn (Qbo H.f2) (Qdl H.B)).mn)) [sy [78,79],cS 80] (.r (sy [81,82])),gs (Qmr _ ((Qbg H.B).mn)) [sy [66,67]] (.r (sy [83,84])),gs (Qex _ _ (Kas H.B H.f2) (Qhu (Qbg H.B)) (by decide)) [sy [81,82],sy [83,84]] (.r (sy [85,86])),gs (Qbs _ ((Khm H.B H.f2).mn)) [sy [85,86]] (.tup [cS 87,cS 88]),gs (pnr 2) [lc 2,lc 1] (rS 89),gs (Qan _ (2:Rat) ((Qbf (Kqe v) (Khm H.B H.f2)).mn) (ri 2)) [cS 87,cS 89] (rS 90),gs (Qfz _ _ ((Qni H.B H.f2).mn) (H.B.D.mn)) [cS 90,cS 44] (rS 91),gs (Qan _ (2:Rat) ((Qal (Qbg H.B)).mn) (ri 2)) [cS 68,cS 89] (rS 92),gs (Qbe _ _ ((Qaw (Kat v) v.d (Qni H.B H.f2) (H.B.D.mn)).mn) ((Qab (nm (Qdt v)) (2:Rat) (Qal (Qbg H.B)) (ri 2)).mn) (Qga H.hN (by decide))) [cS 91,cS 92] (rS 93),gs (Qcz _ _ ((Qbg H.B).mn) ((Khn H.B H.f2 H.hN).mn)) [sy [66,67],cS 93] (.r (sy [94,95])),gs (Qeo _ _ (Kas H.B H.f2) (Kwa H.B H.f2 H.hN) (by decide)) [sy [81,82],sy [94,95]] (.r (sy [96,97])),gs (Qgx _ _ _ _ _ _ _ _ ((Qdl H.B).mn) ((Qin H.B).mn) ((Qio H.B).mn) ((Qjf H.B).mn) ((Qdl H.B).mn) ((Qin H.B).mn) ((Qio H.B).mn) ((Qjf H.B).mn)) [yR 53 4,yR 53 4] (rS 98),gs (Qan _ _ ((Qdl H.B).mn) ((Qdl H.B).mn)) [cS 53,cS 53] (rS 99),gs (Qbe _ _ ((Kwb H.B).mn) ((Kwc H.B).mn) (Qga (Qbo H.f2) (Qbo H.f2))) [cS 98,cS 99] (rS 100),gs (Qan _ _ ((Qaw (Kat v) v.d (Qni H.B H.f2) (H.B.D.mn)).mn) ((Qaw (Kat v) v.d (Qni H.B H.f2) (H.B.D.mn)).mn)) [cS 91,cS 91] (rS 101),gs (pnr 4) [lc 4,lc 1] (rS 102),gs (Qan _ (4:Rat) ((Qal (Qbg H.B)).mn) (ri 4)) [cS 68,cS 102] (rS 103),gs (Qbe _ _ ((Kwe H.B H.f2).mn) ((Qab (nm (Qdt v)) (4:Rat) (Qal (Qbg H.B)) (ri 4)).mn) (Qga H.hN (by decide))) [cS 101,cS 103] (rS 104),gs (Qaz _ _ ((Kwd H.B H.f2).mn) ((Kwf H.B H.f2 H.hN).mn)) [cS 100,cS 104] (rS 105),gs (Qbe _ _ ((Kwg H.B H.f2 H.hN).mn) ((Qal (Qbg H.B)).mn) H.hN) [cS 105,cS 68] (rS 106)]
def Kjr(v:V5)(H:Kcv v)(h0:Qjx (Kpj v))(h1:(((Qvj v).im).num.sign)>0):SCt 10 [gIi 1,.row (rG (⟨v.a,v.b⟩:QC)++rG (⟨v.e,v.d⟩:QC)),.row ((Qah v.z).cells)] (.tup [.row ((Qah (Qvj v)).cells),gIi 0]) :=
  Qbn (L := Qyy v) Qai Qap
     ((Qyz v H)++[gs (Qkw _ ((Qnj H.B H.f2 H.hN).mn) h0) [cS 106] (.tup [cS 107,cTt]),gs (Qex _ (⟨0,1⟩:QC) (Qbg H.B) (Qbj 0 1) (by decide)) [sy [66,67],sy [62,63]] (.r (sy [108,109])),gs (Qcz _ _ ((Qcb (Qbg H.B) (Qbj 0 1)).mn) ((Qdr (Qnj H.B H.f2 H.hN)).mn)) [sy [108,109],cS 107] (.r (sy [110,111])),gs (Qkx _ _ (Qur H.B H.f2 H.hN) (Qus H.B H.f2 H.hN) (by decide)) [sy [96,97],sy [110,111]] (.r (sy [112,113])),gs (Qbs _ ((Kho H.B H.f2 H.hN).mn)) [sy [112,113]] (.tup [cS 114,cS 115]),gs (Qau ((Qvj v).im)) [cS 115] (rS 116),gs (Qez _ ((Kho H.B H.f2 H.hN).mn) H.y0) [sy [112,113]] (.tup [yR 117 8,lc 0])])
     [bI .leq 3 (.sym 40) (li 0) v.z.im.num.sign 0 false (by simp only[Qch];exact congrArg some (decide_eq_false H.hz)),bI .neq 3 (.sym 48) (li 0) ((Qkz v).num.sign) 0 false (by simp[Qch,H.f0]),bI .neq 3 (.sym 57) (li 0) v.a.num.sign 0 false (by simp[Qch,H.f1]),bI .eql 3 (.sym 69) (li 0) ((Qbp v).num.sign) 0 false (by simp[Qch,H.f2]),gtY 3 (.sym 116) (li 0) (((Qvj v).im).num.sign) 0 h1] [] Qku 1 5 func10 eo10 2000 [lc 1,.row (gL [0,6]),yR 12 8] (.tup [yR 117 8,lc 0])
def Uaf(v:V5)(H:Kcv v)(h0:Qjx (Kpj v))(h1:¬((((Qvj v).im).num.sign)>0)):SCt 10 [gIi 1,.row (rG (⟨v.a,v.b⟩:QC)++rG (⟨v.e,v.d⟩:QC)),.row ((Qah v.z).cells)] (.tup [.row ((Qah (Kwh v)).cells),gIi 0]) :=
  Qbn (L := Qyy v) Qai Qap
     ((Qyz v H)++[gs (Qkw _ ((Qnj H.B H.f2 H.hN).mn) h0) [cS 106] (.tup [cS 107,cTt]),gs (Qex _ (⟨0,1⟩:QC) (Qbg H.B) (Qbj 0 1) (by decide)) [sy [66,67],sy [62,63]] (.r (sy [108,109])),gs (Qcz _ _ ((Qcb (Qbg H.B) (Qbj 0 1)).mn) ((Qdr (Qnj H.B H.f2 H.hN)).mn)) [sy [108,109],cS 107] (.r (sy [110,111])),gs (Qkx _ _ (Qur H.B H.f2 H.hN) (Qus H.B H.f2 H.hN) (by decide)) [sy [96,97],sy [110,111]] (.r (sy [112,113])),gs (Qbs _ ((Kho H.B H.f2 H.hN).mn)) [sy [112,113]] (.tup [cS 114,cS 115]),gs (Qau ((Qvj v).im)) [cS 115] (rS 116),gs (Qeo _ _ (Qur H.B H.f2 H.hN) (Qus H.B H.f2 H.hN) (by decide)) [sy [96,97],sy [110,111]] (.r (sy [125,126])),gs (Qez _ ((Uiu H.B H.f2 H.hN).mn) H.y1) [sy [125,126]] (.tup [yR 127 8,lc 0])])
     [bI .leq 3 (.sym 40) (li 0) v.z.im.num.sign 0 false (by simp only[Qch];exact congrArg some (decide_eq_false H.hz)),bI .neq 3 (.sym 48) (li 0) ((Qkz v).num.sign) 0 false (by simp[Qch,H.f0]),bI .neq 3 (.sym 57) (li 0) v.a.num.sign 0 false (by simp[Qch,H.f1]),bI .eql 3 (.sym 69) (li 0) ((Qbp v).num.sign) 0 false (by simp[Qch,H.f2]),gtN 3 (.sym 116) (li 0) (((Qvj v).im).num.sign) 0 h1] [] Qku 1 5 func10 eo10 2000 [lc 1,.row (gL [0,6]),yR 12 8] (.tup [yR 127 8,lc 0])
def Uag(v:V5)(H:Kcv v)(h0:¬(Qjx (Kpj v))):SCt 10 [gIi 1,.row (rG (⟨v.a,v.b⟩:QC)++rG (⟨v.e,v.d⟩:QC)),.row ((Qah v.z).cells)] (.tup [.row (zGG),gIi 7]) :=
  Qbn (L := Qyy v) Qai Qap
     ((Qyz v H)++[gs (Qqa _ ((Qnj H.B H.f2 H.hN).mn) h0) [cS 106] (.tup [cS 135,cFf])])
     [bI .leq 3 (.sym 40) (li 0) v.z.im.num.sign 0 false (by simp only[Qch];exact congrArg some (decide_eq_false H.hz)),bI .neq 3 (.sym 48) (li 0) ((Qkz v).num.sign) 0 false (by simp[Qch,H.f0]),bI .neq 3 (.sym 57) (li 0) v.a.num.sign 0 false (by simp[Qch,H.f1]),bI .eql 3 (.sym 69) (li 0) ((Qbp v).num.sign) 0 false (by simp[Qch,H.f2])] [] Qku 1 5 func10 eo10 2000 [lc 1,.row (gL [0,6]),yR 12 8] (.tup [.row (zGA),lc 7])
def Qpd(v:V5):QC:=(⟨(((⟨0,0⟩:QC)-(Qdt v)).re)*(v.a⁻¹),(((⟨0,0⟩:QC)-(Qdt v)).im)*(v.a⁻¹)⟩:QC)
def Qgd{v:V5}(B:v.O)(f1:¬(v.a.num.sign=0)):ZL (Qpd v) 1033:=(Qbk (Qam (Qxu (Qbg B)).1 (Qdn (Qbo f1) B.A)) (Qam (Qxu (Qbg B)).2 (Qdn (Qbo f1) B.A))).mn
def Kqf(v:V5):QC:=(Qpd v)*(cj (Qla v))
def Khp{v:V5}(B:v.O)(f1:¬(v.a.num.sign=0)):ZL (Kqf v) 1256385:=(Qcb (Qgd B f1) (Qhu (Qfq B))).mn
def Uel(v:V5):Rat:=((Kqf v).re)*(2:Rat)
def Kwi{v:V5}(B:v.O)(f1:¬(v.a.num.sign=0)):RL (Uel v) 2512770:=(Qab ((Kqf v).re) (2:Rat) (Qbf (Kqf v) (Khp B f1)) (ri 2)).mn
def Kqg(v:V5):Rat:=(Uel v)+(Qdz v)
def Qqi{v:V5}(B:v.O)(f1:¬(v.a.num.sign=0)):RL (Kqg v) 5025541:=(Qaw (Uel v) (Qdz v) (Kwi B f1) ((Qjf B).mn)).mn
def Uow(v:V5):Rat:=(nm (Qla v))*(2:Rat)
def Kwj{v:V5}(B:v.O):RL (Uow v) 5017274:=(Qab (nm (Qla v)) (2:Rat) (Qal (Qfq B)) (ri 2)).mn
def Ujp(v:V5):Rat:=(Kqg v)/(Uow v)
def Khq{v:V5}(B:v.O)(f1:¬(v.a.num.sign=0))(hN:¬(nm (Qla v)=0)):RL (Ujp v) 10042815:=(Qbb (Qga hN (by decide)) (Qqi B f1) (Kwj B)).mn
def Uox(v:V5):QC:=(⟨((Qla v).re)*(Ujp v),((Qla v).im)*(Ujp v)⟩:QC)
def Kwk{v:V5}(B:v.O)(f1:¬(v.a.num.sign=0))(hN:¬(nm (Qla v)=0)):ZL (Uox v) 10669974:=(Qbk (Qam (Qfq B).1 (Khq B f1 hN)) (Qam (Qfq B).2 (Khq B f1 hN))).mn
def Ujq(v:V5):QC:=(Qpd v)-(Uox v)
def Qut{v:V5}(B:v.O)(f1:¬(v.a.num.sign=0))(hN:¬(nm (Qla v)=0)):ZL (Ujq v) 10671008:=(Qbi (Qgd B f1) (Kwk B f1 hN)).mn
def Keu(v:V5):Rat:=(Qao v.a v.b v.e v.d v.a v.b v.e v.d)/(v.a*v.a)
def Qlt{v:V5}(B:v.O)(f1:¬(v.a.num.sign=0)):RL (Keu v) 4617:=(Qbb (Qga (Qbo f1) (Qbo f1)) (Qgn v.a v.b v.e v.d v.a v.b v.e v.d B.A B.B B.E B.D B.A B.B B.E B.D) (Qab v.a v.a B.A B.A)).mn
def Uqk(v:V5):Rat:=(Kqg v)*(Kqg v)
def Kwl{v:V5}(B:v.O)(f1:¬(v.a.num.sign=0)):RL (Uqk v) 10051082:=(Qab (Kqg v) (Kqg v) (Qqi B f1) (Qqi B f1)).mn
def Uql(v:V5):Rat:=(nm (Qla v))*(4:Rat)
def Kwm{v:V5}(B:v.O):RL (Uql v) 5017274:=(Qab (nm (Qla v)) (4:Rat) (Qal (Qfq B)) (ri 4)).mn
def Uoy(v:V5):Rat:=(Uqk v)/(Uql v)
def Kwn{v:V5}(B:v.O)(f1:¬(v.a.num.sign=0))(hN:¬(nm (Qla v)=0)):RL (Uoy v) 15068356:=(Qbb (Qga hN (by decide)) (Kwl B f1) (Kwm B)).mn
def Uqm(v:V5):Rat:=(Keu v)-(Uoy v)
def Kwo{v:V5}(B:v.O)(f1:¬(v.a.num.sign=0))(hN:¬(nm (Qla v)=0)):RL (Uqm v) 30136713:=(Qae (Keu v) (Uoy v) ((Qlt B f1).mn) (Kwn B f1 hN)).mn
def Kwp(v:V5):Rat:=(Uqm v)/(nm (Qla v))
def Qnk{v:V5}(B:v.O)(f1:¬(v.a.num.sign=0))(hN:¬(nm (Qla v)=0)):RL (Kwp v) 32645350:=(Qbb hN (Kwo B f1 hN) (Qal (Qfq B))).mn
def Ujr(v:V5):QC:=(Qla v)*(⟨0,1⟩:QC)
def Kau{v:V5}(B:v.O):ZL (Ujr v) 1254323:=(Qcb (Qfq B) (Qbj 0 1)).mn
noncomputable def Ujs(v:V5):QC:=(⟨((Ujr v).re)*(sqr (Kwp v)),((Ujr v).im)*(sqr (Kwp v))⟩:QC)
def Quu{v:V5}(B:v.O)(f1:¬(v.a.num.sign=0))(hN:¬(nm (Qla v)=0)):ZL (Ujs v) 33899674:=(Qbk (Qam (Kau B).1 (Qdr (Qnk B f1 hN))) (Qam (Kau B).2 (Qdr (Qnk B f1 hN)))).mn
noncomputable def Kav(v:V5):QC:=(Ujq v)+(Ujs v)
def Khr{v:V5}(B:v.O)(f1:¬(v.a.num.sign=0))(hN:¬(nm (Qla v)=0)):ZL (Kav v) 44570683:=(Qmq (Qut B f1 hN) (Quu B f1 hN)).mn
noncomputable def Ucc(v:V5):QC:=(Ujq v)-(Ujs v)
def Uiv{v:V5}(B:v.O)(f1:¬(v.a.num.sign=0))(hN:¬(nm (Qla v)=0)):ZL (Ucc v) 44570683:=(Qbi (Qut B f1 hN) (Quu B f1 hN)).mn
noncomputable def Qyw(v:V5):List GF:=[cF v.a,cF v.b,cF v.e,cF v.d,(Qah v.z).cells,(Qah (⟨0,1⟩:QC)).cells,(Qah (⟨0,0⟩:QC)).cells,cn v.z,[gr v.z.re,gr v.z.im,gxi v.z.im.num.sign,gr v.a,gr v.b,gr v.e,gr v.d,gr (0:Rat),gr (1:Rat),gr (Qkz v),gxi ((Qkz v).num.sign),gr (1:Rat),gr (-v.z.re),gr v.z.im,gr (nm v.z),gr (Qbp v),gr (Qcw v),gr (Qcx v),gr (Qdz v),gxi v.a.num.sign,gxi ((Qbp v).num.sign)],cn (⟨(Qcw v),0⟩:QC),cn (⟨(Qcx v),0⟩:QC),cn (⟨0,1⟩:QC),cn (Kpi v),cn (Qla v),[gr (nm (Qla v))],cn (⟨v.b,0⟩:QC),cn (⟨v.e,0⟩:QC),cn ((⟨v.e,0⟩:QC)*(⟨0,1⟩:QC)),cn (Qdt v),cn ((⟨0,0⟩:QC)-(Qdt v)),[gr (v.a⁻¹)],cn (Qpd v),cn (cj (Qla v)),cn (Kqf v),[gr ((Kqf v).re),gr ((Kqf v).im),gr (2:Rat),gr (Uel v),gr (Kqg v),gr (Uow v),gr (Ujp v)],cn (Uox v),cn (Ujq v),[gr (Qao v.a v.b v.e v.d v.a v.b v.e v.d),gr (v.a*v.a),gr (Keu v),gr (Uqk v),gr (4:Rat),gr (Uql v),gr (Uoy v),gr (Uqm v),gr (Kwp v),gr (sqr (Kwp v))],cn (Ujr v),cn (Ujs v),cn (Kav v),[gr ((Kav v).re),gr ((Kav v).im),gxi (((Kav v).im).num.sign)],(Qah (Kav v)).cells,cn (Ucc v),(Qah (Ucc v)).cells,[ga]].flatten
structure Kcu(v:V5):Prop where
 B:v.O
 hz:¬(v.z.im.num.sign<=0)
 f0:((Qkz v).num.sign)=0
 f1:¬(v.a.num.sign=0)
 f2:((Qbp v).num.sign)=0
 hN:¬(nm (Qla v)=0)
 y0:Qac (Kav v)
 y1:Qac (Ucc v)
 hW:Qvm v.a v.b v.e v.d
noncomputable def Qyx(v:V5)(H:Kcu v):List (GC prog (Qyw v) true):=[Qfk eo45,gpi 0 1 20,gpi 0 0 28,gs (Qew v.z H.B.z) [yR 12 8] (.tup [sy [36,37],cTt]),gs (Qbs _ ((Qaa H.B.z).mn)) [sy [36,37]] (.tup [cS 38,cS 39]),gs (Qau v.z.im) [cS 39] (rS 40),gs (Kmw v.a v.b v.e v.d (H.B.A.mn) (H.B.B.mn) (H.B.E.mn) (H.B.D.mn) H.hW) [.row (gL [0,6])] (.r (lc 0)),gs (Qct v.a H.B.a) [yQ 0] (rS 41),gs (Qct v.b H.B.b) [yQ 3] (rS 42),gs (Qct v.e H.B.e) [yQ 6] (rS 43),gs (Qct v.d H.B.d) [yQ 9] (rS 44),gs (pnr 0) [lc 0,lc 1] (rS 45),gs (pnr 1) [lc 1,lc 1] (rS 46),gs (Qgx _ _ _ _ (0:Rat) (0:Rat) (1:Rat) (0:Rat) (H.B.A.mn) (H.B.B.mn) (H.B.E.mn) (H.B.D.mn) (ri 0) (ri 0) (ri 1) (ri 0)) [yR 41 4,.row [.sym 45,.sym 45,.sym 46,.sym 45]] (rS 47),gs (Qau (Qkz v)) [cS 47] (rS 48),gs (Qfc _ ((Qaa H.B.z).mn)) [sy [36,37]] (.r (yR 49 4)),
   gsG (Qln (0:Rat) (0:Rat) (1:Rat) (0:Rat) v.a v.b v.e v.d (1:Rat) (-v.z.re) v.z.im (nm v.z) (ri 0) (ri 0) (ri 1) (ri 0) (H.B.A.mn) (H.B.B.mn) (H.B.E.mn) (H.B.D.mn) (ri 1) ((Qbq ((Qaa H.B.z).1)).mn) (((Qaa H.B.z).2).mn) ((Qal (Qaa H.B.z)).mn)) 22 ⟨flA [[.sym 45,.sym 45,.sym 46,.sym 45],Qba 41 4,Qba 49 4],89,none⟩ [.c (.sl 0 0 3 3)] (.r (yR 53 4)),gs (Qau v.a) [cS 41] (rS 57),gs (Qau (Qbp v)) [cS 53] (rS 58),gs (Qdw (Qcw v)) [cS 54] (.r (sy [59,60])),gs (Qdw (Qcx v)) [cS 55] (.r (sy [61,62])),gs (Qtf 0 1) [lc 0,lc 1] (.r (sy [63,64])),gs (Qex _ (⟨0,1⟩:QC) (Qbk ((Qio H.B).upby 1) Qdi) (Qbj 0 1) (by decide)) [sy [61,62],sy [63,64]] (.r (sy [65,66])),gs (Qeo _ _ (Qbk ((Qin H.B).upby 1) Qdi) (Khk H.B) (by decide)) [sy [59,60],sy [65,66]] (.r (sy [67,68])),gs (Qbw _ ((Qfq H.B).mn)) [sy [67,68]] (rS 69),gs (Qdw v.b) [cS 42] (.r (sy [70,71])),gs (Qdw v.e) [cS 43] (.r (sy [72,73])),gs (Qex _ (⟨0,1⟩:QC) (Qbk (H.B.E.upby 1) Qdi) (Qbj 0 1) (by decide)) [sy [72,73],sy [63,64]] (.r (sy [74,75])),gs (Qeo _ _ (Qbk (H.B.B.upby 1) Qdi) (Qcb (Qbk (H.B.E.upby 1) Qdi) (Qbj 0 1)) (by decide)) [sy [70,71],sy [74,75]] (.r (sy [76,77])),gs (Kda _ ((Qbg H.B).mn)) [sy [76,77]] (.r (sy [78,79])),
   Qyh v.a (Qbo H.f1) H.B.A (by decide) 57 (.c (.sym 41)) (.sym 80),gs (Qcz _ _ ((Qxu (Qbg H.B)).mn) ((Qdn (Qbo H.f1) H.B.A).mn)) [sy [78,79],cS 80] (.r (sy [81,82])),gs (Qmr _ ((Qfq H.B).mn)) [sy [67,68]] (.r (sy [83,84])),gs (Qex _ _ (Qgd H.B H.f1) (Qhu (Qfq H.B)) (by decide)) [sy [81,82],sy [83,84]] (.r (sy [85,86])),gs (Qbs _ ((Khp H.B H.f1).mn)) [sy [85,86]] (.tup [cS 87,cS 88]),gs (pnr 2) [lc 2,lc 1] (rS 89),gs (Qan _ (2:Rat) ((Qbf (Kqf v) (Khp H.B H.f1)).mn) (ri 2)) [cS 87,cS 89] (rS 90),gs (Qfz _ _ ((Kwi H.B H.f1).mn) ((Qjf H.B).mn)) [cS 90,cS 56] (rS 91),gs (Qan _ (2:Rat) ((Qal (Qfq H.B)).mn) (ri 2)) [cS 69,cS 89] (rS 92),gs (Qbe _ _ ((Qqi H.B H.f1).mn) ((Kwj H.B).mn) (Qga H.hN (by decide))) [cS 91,cS 92] (rS 93),gs (Qcz _ _ ((Qfq H.B).mn) ((Khq H.B H.f1 H.hN).mn)) [sy [67,68],cS 93] (.r (sy [94,95])),gs (Qeo _ _ (Qgd H.B H.f1) (Kwk H.B H.f1 H.hN) (by decide)) [sy [81,82],sy [94,95]] (.r (sy [96,97])),gs (Qgx _ _ _ _ _ _ _ _ (H.B.A.mn) (H.B.B.mn) (H.B.E.mn) (H.B.D.mn) (H.B.A.mn) (H.B.B.mn) (H.B.E.mn) (H.B.D.mn)) [yR 41 4,yR 41 4] (rS 98),gs (Qan _ _ (H.B.A.mn) (H.B.A.mn)) [cS 41,cS 41] (rS 99),gs (Qbe _ _ ((Qgn v.a v.b v.e v.d v.a v.b v.e v.d H.B.A H.B.B H.B.E H.B.D H.B.A H.B.B H.B.E H.B.D).mn) ((Qab v.a v.a H.B.A H.B.A).mn) (Qga (Qbo H.f1) (Qbo H.f1))) [cS 98,cS 99] (rS 100),gs (Qan _ _ ((Qqi H.B H.f1).mn) ((Qqi H.B H.f1).mn)) [cS 91,cS 91] (rS 101),gs (pnr 4) [lc 4,lc 1] (rS 102),gs (Qan _ (4:Rat) ((Qal (Qfq H.B)).mn) (ri 4)) [cS 69,cS 102] (rS 103),gs (Qbe _ _ ((Kwl H.B H.f1).mn) ((Kwm H.B).mn) (Qga H.hN (by decide))) [cS 101,cS 103] (rS 104),gs (Qaz _ _ ((Qlt H.B H.f1).mn) ((Kwn H.B H.f1 H.hN).mn)) [cS 100,cS 104] (rS 105),gs (Qbe _ _ ((Kwo H.B H.f1 H.hN).mn) ((Qal (Qfq H.B)).mn) H.hN) [cS 105,cS 69] (rS 106)]
def Uac(v:V5)(H:Kcu v)(h0:Qjx (Kwp v))(h1:(((Kav v).im).num.sign)>0):SCt 10 [gIi 1,.row (rG (⟨v.a,v.b⟩:QC)++rG (⟨v.e,v.d⟩:QC)),.row ((Qah v.z).cells)] (.tup [.row ((Qah (Kav v)).cells),gIi 0]) :=
  Qbn (L := Qyw v) Qai Qap
     ((Qyx v H)++[gs (Qkw _ ((Qnk H.B H.f1 H.hN).mn) h0) [cS 106] (.tup [cS 107,cTt]),gs (Qex _ (⟨0,1⟩:QC) (Qfq H.B) (Qbj 0 1) (by decide)) [sy [67,68],sy [63,64]] (.r (sy [108,109])),gs (Qcz _ _ ((Kau H.B).mn) ((Qdr (Qnk H.B H.f1 H.hN)).mn)) [sy [108,109],cS 107] (.r (sy [110,111])),gs (Qkx _ _ (Qut H.B H.f1 H.hN) (Quu H.B H.f1 H.hN) (by decide)) [sy [96,97],sy [110,111]] (.r (sy [112,113])),gs (Qbs _ ((Khr H.B H.f1 H.hN).mn)) [sy [112,113]] (.tup [cS 114,cS 115]),gs (Qau ((Kav v).im)) [cS 115] (rS 116),gs (Qez _ ((Khr H.B H.f1 H.hN).mn) H.y0) [sy [112,113]] (.tup [yR 117 8,lc 0])])
     [bI .leq 3 (.sym 40) (li 0) v.z.im.num.sign 0 false (by simp only[Qch];exact congrArg some (decide_eq_false H.hz)),bI .neq 3 (.sym 48) (li 0) ((Qkz v).num.sign) 0 false (by simp[Qch,H.f0]),bI .neq 3 (.sym 57) (li 0) v.a.num.sign 0 true (by simp[Qch,H.f1]),bI .neq 3 (.sym 58) (li 0) ((Qbp v).num.sign) 0 false (by simp[Qch,H.f2]),bI .eql 3 (.sym 57) (li 0) v.a.num.sign 0 false (by simp[Qch,H.f1]),gtY 3 (.sym 116) (li 0) (((Kav v).im).num.sign) 0 h1] [] Qku 1 5 func10 eo10 2000 [lc 1,.row (gL [0,6]),yR 12 8] (.tup [yR 117 8,lc 0])
def Uad(v:V5)(H:Kcu v)(h0:Qjx (Kwp v))(h1:¬((((Kav v).im).num.sign)>0)):SCt 10 [gIi 1,.row (rG (⟨v.a,v.b⟩:QC)++rG (⟨v.e,v.d⟩:QC)),.row ((Qah v.z).cells)] (.tup [.row ((Qah (Ucc v)).cells),gIi 0]) :=
  Qbn (L := Qyw v) Qai Qap
     ((Qyx v H)++[gs (Qkw _ ((Qnk H.B H.f1 H.hN).mn) h0) [cS 106] (.tup [cS 107,cTt]),gs (Qex _ (⟨0,1⟩:QC) (Qfq H.B) (Qbj 0 1) (by decide)) [sy [67,68],sy [63,64]] (.r (sy [108,109])),gs (Qcz _ _ ((Kau H.B).mn) ((Qdr (Qnk H.B H.f1 H.hN)).mn)) [sy [108,109],cS 107] (.r (sy [110,111])),gs (Qkx _ _ (Qut H.B H.f1 H.hN) (Quu H.B H.f1 H.hN) (by decide)) [sy [96,97],sy [110,111]] (.r (sy [112,113])),gs (Qbs _ ((Khr H.B H.f1 H.hN).mn)) [sy [112,113]] (.tup [cS 114,cS 115]),gs (Qau ((Kav v).im)) [cS 115] (rS 116),gs (Qeo _ _ (Qut H.B H.f1 H.hN) (Quu H.B H.f1 H.hN) (by decide)) [sy [96,97],sy [110,111]] (.r (sy [125,126])),gs (Qez _ ((Uiv H.B H.f1 H.hN).mn) H.y1) [sy [125,126]] (.tup [yR 127 8,lc 0])])
     [bI .leq 3 (.sym 40) (li 0) v.z.im.num.sign 0 false (by simp only[Qch];exact congrArg some (decide_eq_false H.hz)),bI .neq 3 (.sym 48) (li 0) ((Qkz v).num.sign) 0 false (by simp[Qch,H.f0]),bI .neq 3 (.sym 57) (li 0) v.a.num.sign 0 true (by simp[Qch,H.f1]),bI .neq 3 (.sym 58) (li 0) ((Qbp v).num.sign) 0 false (by simp[Qch,H.f2]),bI .eql 3 (.sym 57) (li 0) v.a.num.sign 0 false (by simp[Qch,H.f1]),gtN 3 (.sym 116) (li 0) (((Kav v).im).num.sign) 0 h1] [] Qku 1 5 func10 eo10 2000 [lc 1,.row (gL [0,6]),yR 12 8] (.tup [yR 127 8,lc 0])
def Uae(v:V5)(H:Kcu v)(h0:¬(Qjx (Kwp v))):SCt 10 [gIi 1,.row (rG (⟨v.a,v.b⟩:QC)++rG (⟨v.e,v.d⟩:QC)),.row ((Qah v.z).cells)] (.tup [.row (zGG),gIi 7]) :=
  Qbn (L := Qyw v) Qai Qap
     ((Qyx v H)++[gs (Qqa _ ((Qnk H.B H.f1 H.hN).mn) h0) [cS 106] (.tup [cS 135,cFf])])
     [bI .leq 3 (.sym 40) (li 0) v.z.im.num.sign 0 false (by simp only[Qch];exact congrArg some (decide_eq_false H.hz)),bI .neq 3 (.sym 48) (li 0) ((Qkz v).num.sign) 0 false (by simp[Qch,H.f0]),bI .neq 3 (.sym 57) (li 0) v.a.num.sign 0 true (by simp[Qch,H.f1]),bI .neq 3 (.sym 58) (li 0) ((Qbp v).num.sign) 0 false (by simp[Qch,H.f2]),bI .eql 3 (.sym 57) (li 0) v.a.num.sign 0 false (by simp[Qch,H.f1])] [] Qku 1 5 func10 eo10 2000 [lc 1,.row (gL [0,6]),yR 12 8] (.tup [.row (zGA),lc 7])
