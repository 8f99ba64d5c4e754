/- Laws. -/
import Derived.Test.YtcjjdooeogmdbaaGreatVbs
set_option linter.all false
set_option maxHeartbeats 4000000
set_option maxRecDepth 100000
namespace Go.Proofs.YtcjjdooeogmdbaaGreat
open Go.RowKit Tr Proofs.Tryz
open Classical
def Ugp(z x w:QC):List GF:=[(Qah z).cells,(Qah x).cells,(Qah w).cells,(Qah (⟨0,1⟩:QC)).cells,(Qah (⟨0,0⟩:QC)).cells,cn z,[gr (1:Rat),gr (nm z),gr ((1:Rat)-(nm z)),gxi (((1:Rat)-(nm z)).num.sign)],cn x,[gr (nm x),gr ((1:Rat)-(nm x)),gxi (((1:Rat)-(nm x)).num.sign)],cn w,[gr (nm w),gr ((1:Rat)-(nm w)),gxi (((1:Rat)-(nm w)).num.sign)]].flatten
def Kzt(z x w:QC)(b_z:Qac z)(b_x:Qac x)(b_w:Qac w)(hz:hN2 z)(hx:hN2 x)(hw:hN2 w)(e1:x=z) :SCt 79 [gIi 2,.row ((Qah z).cells),.row ((Qah x).cells),.row ((Qah w).cells)] (.tup [gTt,gIi 0]) :=
  Qbn (L := Ugp z x w) Qai Qap
     [Qfk eo45,gpi 0 1 24,gpi 0 0 32,gs (Qew z b_z) [yR 0 8] (.tup [sy [40,41],cTt]),gs (pnr 1) [lc 1,lc 1] (rS 42),gs (Qbw z ((Qaa b_z).mn)) [sy [40,41]] (rS 43),gs (Qaz (1:Rat) _ (ri 1) ((Qal (Qaa b_z)).mn)) [cS 42,cS 43] (rS 44),gs (Qau ((1:Rat)-(nm z))) [cS 44] (rS 45),gs (Qew x b_x) [yR 8 8] (.tup [sy [46,47],cTt]),gs (Qbw x ((Qaa b_x).mn)) [sy [46,47]] (rS 48),gs (Qaz (1:Rat) _ (ri 1) ((Qal (Qaa b_x)).mn)) [cS 42,cS 48] (rS 49),gs (Qau ((1:Rat)-(nm x))) [cS 49] (rS 50),gs (Qew w b_w) [yR 16 8] (.tup [sy [51,52],cTt]),gs (Qbw w ((Qaa b_w).mn)) [sy [51,52]] (rS 53),gs (Qaz (1:Rat) _ (ri 1) ((Qal (Qaa b_w)).mn)) [cS 42,cS 53] (rS 54),gs (Qau ((1:Rat)-(nm w))) [cS 54] (rS 55),
      gsm (Kqw x z w b_x b_z b_w e1) [20] [⟨flA [[.lit (.bool false)],Qba 8 8,[.lit (.bool false)],Qba 0 8,[.lit (.bool false)],Qba 16 8],59,none⟩] [.c (.sl 0 0 3 3)] (.tup [lc 0,lc 1,lc 0])]
     [bLf 3 45 hz,bLf 3 50 hx,bLf 3 55 hw] [] Qrd 1 4 func79 eo79 2000 [lc 2,yR 0 8,yR 8 8,yR 16 8] (.tup [cTt,lc 0])
def Uur(z x w:QC)(b_z:Qac z)(b_x:Qac x)(b_w:Qac w)(hz:hN2 z)(hx:hN2 x)(hw:hN2 w)(e1:x=z):SCt 79 [gIi 2,.row ((Qah z).cells),.row ((Qah x).cells),.row ((Qah w).cells)] (.tup [gTt,gIi 0]) :=
 Kzt z x w b_z b_x b_w hz hx hw e1
def Ugq(z x w:QC):List GF:=[(Qah z).cells,(Qah x).cells,(Qah w).cells,(Qah (⟨0,1⟩:QC)).cells,(Qah (⟨0,0⟩:QC)).cells,cn z,[gr (1:Rat),gr (nm z),gr ((1:Rat)-(nm z)),gxi (((1:Rat)-(nm z)).num.sign)],cn x,[gr (nm x),gr ((1:Rat)-(nm x)),gxi (((1:Rat)-(nm x)).num.sign)],cn w,[gr (nm w),gr ((1:Rat)-(nm w)),gxi (((1:Rat)-(nm w)).num.sign)]].flatten
def Kzv(z x w:QC)(b_z:Qac z)(b_x:Qac x)(b_w:Qac w)(hz:hN2 z)(hx:hN2 x)(hw:hN2 w)(e1:¬(x=z))(e2:x=w) :SCt 79 [gIi 2,.row ((Qah z).cells),.row ((Qah x).cells),.row ((Qah w).cells)] (.tup [gTt,gIi 0]) :=
  Qbn (L := Ugq z x w) Qai Qap
     [Qfk eo45,gpi 0 1 24,gpi 0 0 32,gs (Qew z b_z) [yR 0 8] (.tup [sy [40,41],cTt]),gs (pnr 1) [lc 1,lc 1] (rS 42),gs (Qbw z ((Qaa b_z).mn)) [sy [40,41]] (rS 43),gs (Qaz (1:Rat) _ (ri 1) ((Qal (Qaa b_z)).mn)) [cS 42,cS 43] (rS 44),gs (Qau ((1:Rat)-(nm z))) [cS 44] (rS 45),gs (Qew x b_x) [yR 8 8] (.tup [sy [46,47],cTt]),gs (Qbw x ((Qaa b_x).mn)) [sy [46,47]] (rS 48),gs (Qaz (1:Rat) _ (ri 1) ((Qal (Qaa b_x)).mn)) [cS 42,cS 48] (rS 49),gs (Qau ((1:Rat)-(nm x))) [cS 49] (rS 50),gs (Qew w b_w) [yR 16 8] (.tup [sy [51,52],cTt]),gs (Qbw w ((Qaa b_w).mn)) [sy [51,52]] (rS 53),gs (Qaz (1:Rat) _ (ri 1) ((Qal (Qaa b_w)).mn)) [cS 42,cS 53] (rS 54),gs (Qau ((1:Rat)-(nm w))) [cS 54] (rS 55),
      gsm (Kqx x z w b_x b_z b_w e1 e2) [20] [⟨flA [[.lit (.bool false)],Qba 8 8,[.lit (.bool false)],Qba 0 8,[.lit (.bool false)],Qba 16 8],59,none⟩] [.c (.sl 0 0 3 3)] (.tup [lc 0,lc 2,lc 0])]
     [bLf 3 45 hz,bLf 3 50 hx,bLf 3 55 hw] [] Qrd 1 4 func79 eo79 2000 [lc 2,yR 0 8,yR 8 8,yR 16 8] (.tup [cTt,lc 0])
def Uut(z x w:QC)(b_z:Qac z)(b_x:Qac x)(b_w:Qac w)(hz:hN2 z)(hx:hN2 x)(hw:hN2 w)(e1:¬(x=z))(e2:x=w):SCt 79 [gIi 2,.row ((Qah z).cells),.row ((Qah x).cells),.row ((Qah w).cells)] (.tup [gTt,gIi 0]) :=
 Kzv z x w b_z b_x b_w hz hx hw e1 e2
def Uis(z x:QC):Rat:=((1:Rat)-(nm x))*((1:Rat)-(nm z))
def Khg(z x:QC)(b_z:Qac z)(b_x:Qac x):RL (Uis z x) 16390:=(Qab ((1:Rat)-(nm x)) ((1:Rat)-(nm z)) (Qae (1:Rat) (nm x) (ri 1) (Qal (Qaa b_x))) (Qae (1:Rat) (nm z) (ri 1) (Qal (Qaa b_z)))).mn
def Uit(z x:QC):Rat:=((nm (x-z))/(Uis z x))*(2:Rat)
def Khh(z x:QC)(b_z:Qac z)(b_x:Qac x)(hz:hN2 z)(hx:hN2 x):RL (Uit z x) 49174:=(Qab ((nm (x-z))/(Uis z x)) (2:Rat) (Qbb (pne (Qdv (Qdf hx) (Qdf hz))) (Qal (Qbi (Qaa b_x) (Qaa b_z))) (Khg z x b_z b_x)) (ri 2)).mn
def Kaj(z x:QC):Rat:=(1:Rat)+((Uit z x)/(1:Rat))
def Qkq(z x:QC)(b_z:Qac z)(b_x:Qac x)(hz:hN2 z)(hx:hN2 x):RL (Kaj z x) 98353:=(Qaw (1:Rat) ((Uit z x)/(1:Rat)) (ri 1) (Qbb (by decide +kernel) (Khh z x b_z b_x hz hx) (rj 1))).mn
def Klr(z x:QC):Rat:=((Kaj z x)*(Kaj z x))-(1:Rat)
def Kvp(z x:QC)(b_z:Qac z)(b_x:Qac x)(hz:hN2 z)(hx:hN2 x):RL (Klr z x) 393413:=(Qae ((Kaj z x)*(Kaj z x)) (1:Rat) (Qab (Kaj z x) (Kaj z x) (Qkq z x b_z b_x hz hx) (Qkq z x b_z b_x hz hx)) (ri 1)).mn
def Qmh(z x w:QC):Rat:=(Kxl z w)-((Kaj z x)*(Qmt x w))
def Kak(z x w:QC)(b_z:Qac z)(b_x:Qac x)(b_w:Qac w)(hz:hN2 z)(hx:hN2 x)(hw:hN2 w):RL (Qmh z x w) 393413:=(Qae (Kxl z w) ((Kaj z x)*(Qmt x w)) ((Kae z w b_z b_w hz hw).mn) (Qab (Kaj z x) (Qmt x w) (Qkq z x b_z b_x hz hx) (Qgc x w b_x b_w hx hw))).mn
def Qyu(z x w:QC):List GF:=[(Qah z).cells,(Qah x).cells,(Qah w).cells,(Qah (⟨0,1⟩:QC)).cells,(Qah (⟨0,0⟩:QC)).cells,cn z,[gr (1:Rat),gr (nm z),gr ((1:Rat)-(nm z)),gxi (((1:Rat)-(nm z)).num.sign)],cn x,[gr (nm x),gr ((1:Rat)-(nm x)),gxi (((1:Rat)-(nm x)).num.sign)],cn w,[gr (nm w),gr ((1:Rat)-(nm w)),gxi (((1:Rat)-(nm w)).num.sign)],cn (x-z),[gr (nm (x-z)),gr (Uis z x),gr ((nm (x-z))/(Uis z x)),gr (2:Rat),gr (Uit z x),gr ((Uit z x)/(1:Rat)),gr (Kaj z x)],cn (x-w),[gr (nm (x-w)),gr (Kqc x w),gr ((nm (x-w))/(Kqc x w)),gr (Kqd x w),gr ((Kqd x w)/(1:Rat)),gr (Qmt x w)],cn (z-w),[gr (nm (z-w)),gr (Kxj z w),gr ((nm (z-w))/(Kxj z w)),gr (Kxk z w),gr ((Kxk z w)/(1:Rat)),gr (Kxl z w),gr ((Kaj z x)*(Kaj z x)),gr (Klr z x),gr ((Qmt x w)*(Qmt x w)),gr (Qui x w),gr ((Klr z x)*(Qui x w)),gr ((Kaj z x)*(Qmt x w)),gr (Qmh z x w),gxi ((Qmh z x w).num.sign),gr ((Qmh z x w)*(Qmh z x w)),gxi (Qff ((Qmh z x w)*(Qmh z x w)) ((Klr z x)*(Qui x w)))]].flatten
noncomputable def Qyv(z x w:QC)(b_z:Qac z)(b_x:Qac x)(b_w:Qac w)(hz:hN2 z)(hx:hN2 x)(hw:hN2 w)(e1:¬(x=z))(e2:¬(x=w))(e3:¬(z=w)):List (GC prog (Qyu z x w) true):=[Qfk eo45,gpi 0 1 24,gpi 0 0 32,gs (Qew z b_z) [yR 0 8] (.tup [sy [40,41],cTt]),gs (pnr 1) [lc 1,lc 1] (rS 42),gs (Qbw z ((Qaa b_z).mn)) [sy [40,41]] (rS 43),gs (Qaz (1:Rat) _ (ri 1) ((Qal (Qaa b_z)).mn)) [cS 42,cS 43] (rS 44),gs (Qau ((1:Rat)-(nm z))) [cS 44] (rS 45),gs (Qew x b_x) [yR 8 8] (.tup [sy [46,47],cTt]),gs (Qbw x ((Qaa b_x).mn)) [sy [46,47]] (rS 48),gs (Qaz (1:Rat) _ (ri 1) ((Qal (Qaa b_x)).mn)) [cS 42,cS 48] (rS 49),gs (Qau ((1:Rat)-(nm x))) [cS 49] (rS 50),gs (Qew w b_w) [yR 16 8] (.tup [sy [51,52],cTt]),gs (Qbw w ((Qaa b_w).mn)) [sy [51,52]] (rS 53),gs (Qaz (1:Rat) _ (ri 1) ((Qal (Qaa b_w)).mn)) [cS 42,cS 53] (rS 54),gs (Qau ((1:Rat)-(nm w))) [cS 54] (rS 55),
   gsm (Kqy x z w b_x b_z b_w e1 e2 e3) [20] [⟨flA [[.lit (.bool false)],Qba 8 8,[.lit (.bool false)],Qba 0 8,[.lit (.bool false)],Qba 16 8],59,none⟩] [.c (.sl 0 0 3 3)] (.tup [lc 0,lc 0,lc 7]),gs (Qeo x z (Qaa b_x) (Qaa b_z) (by decide)) [sy [46,47],sy [40,41]] (.r (sy [56,57])),gs (Qbw _ ((Qbi (Qaa b_x) (Qaa b_z)).mn)) [sy [56,57]] (rS 58),gs (Qan _ _ ((Qae (1:Rat) (nm x) (ri 1) (Qal (Qaa b_x))).mn) ((Qae (1:Rat) (nm z) (ri 1) (Qal (Qaa b_z))).mn)) [cS 49,cS 44] (rS 59),gs (Qbe _ _ ((Qal (Qbi (Qaa b_x) (Qaa b_z))).mn) ((Khg z x b_z b_x).mn) (pne (Qdv (Qdf hx) (Qdf hz)))) [cS 58,cS 59] (rS 60),gs (pnr 2) [lc 2,lc 1] (rS 61),gs (Qan _ (2:Rat) ((Qbb (pne (Qdv (Qdf hx) (Qdf hz))) (Qal (Qbi (Qaa b_x) (Qaa b_z))) (Khg z x b_z b_x)).mn) (ri 2)) [cS 60,cS 61] (rS 62),gs (Qbe _ (1:Rat) ((Khh z x b_z b_x hz hx).mn) (ri 1) (by decide +kernel)) [cS 62,cS 42] (rS 63),gs (Qfz (1:Rat) _ (ri 1) ((Qbb (by decide +kernel) (Khh z x b_z b_x hz hx) (rj 1)).mn)) [cS 42,cS 63] (rS 64),gs (Qeo x w (Qaa b_x) (Qaa b_w) (by decide)) [sy [46,47],sy [51,52]] (.r (sy [65,66])),gs (Qbw _ ((Qbi (Qaa b_x) (Qaa b_w)).mn)) [sy [65,66]] (rS 67),gs (Qan _ _ ((Qae (1:Rat) (nm x) (ri 1) (Qal (Qaa b_x))).mn) ((Qae (1:Rat) (nm w) (ri 1) (Qal (Qaa b_w))).mn)) [cS 49,cS 54] (rS 68),gs (Qbe _ _ ((Qal (Qbi (Qaa b_x) (Qaa b_w))).mn) ((Que x w b_x b_w).mn) (pne (Qdv (Qdf hx) (Qdf hw)))) [cS 67,cS 68] (rS 69),gs (Qan _ (2:Rat) ((Qbb (pne (Qdv (Qdf hx) (Qdf hw))) (Qal (Qbi (Qaa b_x) (Qaa b_w))) (Que x w b_x b_w)).mn) (ri 2)) [cS 69,cS 61] (rS 70),gs (Qbe _ (1:Rat) ((Quf x w b_x b_w hx hw).mn) (ri 1) (by decide +kernel)) [cS 70,cS 42] (rS 71),gs (Qfz (1:Rat) _ (ri 1) ((Qbb (by decide +kernel) (Quf x w b_x b_w hx hw) (rj 1)).mn)) [cS 42,cS 71] (rS 72),gs (Qeo z w (Qaa b_z) (Qaa b_w) (by decide)) [sy [40,41],sy [51,52]] (.r (sy [73,74])),gs (Qbw _ ((Qbi (Qaa b_z) (Qaa b_w)).mn)) [sy [73,74]] (rS 75),gs (Qan _ _ ((Qae (1:Rat) (nm z) (ri 1) (Qal (Qaa b_z))).mn) ((Qae (1:Rat) (nm w) (ri 1) (Qal (Qaa b_w))).mn)) [cS 44,cS 54] (rS 76),gs (Qbe _ _ ((Qal (Qbi (Qaa b_z) (Qaa b_w))).mn) ((Qug z w b_z b_w).mn) (pne (Qdv (Qdf hz) (Qdf hw)))) [cS 75,cS 76] (rS 77),gs (Qan _ (2:Rat) ((Qbb (pne (Qdv (Qdf hz) (Qdf hw))) (Qal (Qbi (Qaa b_z) (Qaa b_w))) (Qug z w b_z b_w)).mn) (ri 2)) [cS 77,cS 61] (rS 78),gs (Qbe _ (1:Rat) ((Quh z w b_z b_w hz hw).mn) (ri 1) (by decide +kernel)) [cS 78,cS 42] (rS 79),gs (Qfz (1:Rat) _ (ri 1) ((Qbb (by decide +kernel) (Quh z w b_z b_w hz hw) (rj 1)).mn)) [cS 42,cS 79] (rS 80),gs (Qan _ _ ((Qkq z x b_z b_x hz hx).mn) ((Qkq z x b_z b_x hz hx).mn)) [cS 64,cS 64] (rS 81),gs (Qaz _ (1:Rat) ((Qab (Kaj z x) (Kaj z x) (Qkq z x b_z b_x hz hx) (Qkq z x b_z b_x hz hx)).mn) (ri 1)) [cS 81,cS 42] (rS 82),gs (Qan _ _ ((Qgc x w b_x b_w hx hw).mn) ((Qgc x w b_x b_w hx hw).mn)) [cS 72,cS 72] (rS 83),gs (Qaz _ (1:Rat) ((Qab (Qmt x w) (Qmt x w) (Qgc x w b_x b_w hx hw) (Qgc x w b_x b_w hx hw)).mn) (ri 1)) [cS 83,cS 42] (rS 84),gs (Qan _ _ ((Kvp z x b_z b_x hz hx).mn) ((Quj x w b_x b_w hx hw).mn)) [cS 82,cS 84] (rS 85),gs (Qan _ _ ((Qkq z x b_z b_x hz hx).mn) ((Qgc x w b_x b_w hx hw).mn)) [cS 64,cS 72] (rS 86),gs (Qaz _ _ ((Kae z w b_z b_w hz hw).mn) ((Qab (Kaj z x) (Qmt x w) (Qkq z x b_z b_x hz hx) (Qgc x w b_x b_w hx hw)).mn)) [cS 80,cS 86] (rS 87),gs (Qau (Qmh z x w)) [cS 87] (rS 88),gs (Qan _ _ ((Kak z x w b_z b_x b_w hz hx hw).mn) ((Kak z x w b_z b_x b_w hz hx hw).mn)) [cS 87,cS 87] (rS 89),gs (Kdc ((Qmh z x w)*(Qmh z x w)) ((Klr z x)*(Qui x w)) (Qab (Qmh z x w) (Qmh z x w) (Kak z x w b_z b_x b_w hz hx hw) (Kak z x w b_z b_x b_w hz hx hw)) (Qab (Klr z x) (Qui x w) (Kvp z x b_z b_x hz hx) (Quj x w b_x b_w hx hw)) (by decide)) [cS 89,cS 85] (rS 90)]
def Kzz(z x w:QC)(b_z:Qac z)(b_x:Qac x)(b_w:Qac w)(hz:hN2 z)(hx:hN2 x)(hw:hN2 w)(e1:¬(x=z))(e2:¬(x=w))(e3:¬(z=w))(h0:((Qmh z x w).num.sign)>0)(h1:(Qff ((Qmh z x w)*(Qmh z x w)) ((Klr z x)*(Qui x w)))=0):SCt 79 [gIi 2,.row ((Qah z).cells),.row ((Qah x).cells),.row ((Qah w).cells)] (.tup [gTt,gIi 0]) :=
  Qbn (L := Qyu z x w) Qai Qap
     (Qyv z x w b_z b_x b_w hz hx hw e1 e2 e3)
     [bLf 3 45 hz,bLf 3 50 hx,bLf 3 55 hw,gtY 3 (.sym 88) (li 0) ((Qmh z x w).num.sign) 0 h0,bI .eql 3 (.sym 90) (li 0) (Qff ((Qmh z x w)*(Qmh z x w)) ((Klr z x)*(Qui x w))) 0 true (by simp[Qch,h1])] [] Qrd 1 4 func79 eo79 2000 [lc 2,yR 0 8,yR 8 8,yR 16 8] (.tup [cTt,lc 0])
def Uaa(z x w:QC)(b_z:Qac z)(b_x:Qac x)(b_w:Qac w)(hz:hN2 z)(hx:hN2 x)(hw:hN2 w)(e1:¬(x=z))(e2:¬(x=w))(e3:¬(z=w))(h0:¬(((Qmh z x w).num.sign)>0)):SCt 79 [gIi 2,.row ((Qah z).cells),.row ((Qah x).cells),.row ((Qah w).cells)] (.tup [gFf,gIi 0]) :=
  Qbn (L := Qyu z x w) Qai Qap
     (Qyv z x w b_z b_x b_w hz hx hw e1 e2 e3)
     [bLf 3 45 hz,bLf 3 50 hx,bLf 3 55 hw,gtN 3 (.sym 88) (li 0) ((Qmh z x w).num.sign) 0 h0] [] Qrd 1 4 func79 eo79 2000 [lc 2,yR 0 8,yR 8 8,yR 16 8] (.tup [cFf,lc 0])
def Uab(z x w:QC)(b_z:Qac z)(b_x:Qac x)(b_w:Qac w)(hz:hN2 z)(hx:hN2 x)(hw:hN2 w)(e1:¬(x=z))(e2:¬(x=w))(e3:¬(z=w))(h0:((Qmh z x w).num.sign)>0)(h1:¬((Qff ((Qmh z x w)*(Qmh z x w)) ((Klr z x)*(Qui x w)))=0)):SCt 79 [gIi 2,.row ((Qah z).cells),.row ((Qah x).cells),.row ((Qah w).cells)] (.tup [gFf,gIi 0]) :=
  Qbn (L := Qyu z x w) Qai Qap
     (Qyv z x w b_z b_x b_w hz hx hw e1 e2 e3)
     [bLf 3 45 hz,bLf 3 50 hx,bLf 3 55 hw,gtY 3 (.sym 88) (li 0) ((Qmh z x w).num.sign) 0 h0,bI .eql 3 (.sym 90) (li 0) (Qff ((Qmh z x w)*(Qmh z x w)) ((Klr z x)*(Qui x w))) 0 false (by simp[Qch,h1])] [] Qrd 1 4 func79 eo79 2000 [lc 2,yR 0 8,yR 8 8,yR 16 8] (.tup [cFf,lc 0])
def Uuv(z x w:QC)(b_z:Qac z)(b_x:Qac x)(b_w:Qac w)(hz:hN2 z)(hx:hN2 x)(hw:hN2 w)(e1:¬(x=z))(e2:¬(x=w))(e3:¬(z=w)):SCt 79 [gIi 2,.row ((Qah z).cells),.row ((Qah x).cells),.row ((Qah w).cells)] (if((Qmh z x w).num.sign)>0/\(Qff ((Qmh z x w)*(Qmh z x w)) ((Klr z x)*(Qui x w)))=0 then .tup [gTt,gIi 0] else .tup [gFf,gIi 0]) :=
  (Classical.em (((Qmh z x w).num.sign)>0)).elim (fun h0=>(Classical.em ((Qff ((Qmh z x w)*(Qmh z x w)) ((Klr z x)*(Qui x w)))=0)).elim (fun h1=>.it ⟨h0,h1⟩ (Kzz z x w b_z b_x b_w hz hx hw e1 e2 e3 h0 h1))
   (fun h1=>.ie (fun h=>h1 h.2) (Uab z x w b_z b_x b_w hz hx hw e1 e2 e3 h0 h1)))
   (fun h0=>.ie (fun h=>h0 h.1) (Uaa z x w b_z b_x b_w hz hx hw e1 e2 e3 h0))
def Qfg{x y:Rat}:Qff x y=0↔x=y:=by
 unfold Qff;constructor
 .intro h
  split at h
  .omega
  .split at h
   .assumption
   .omega
 .rintro rfl;simp[Rat.lt_irrefl]
def Qfp{x:Rat}:x.num.sign>0↔0<x:=by
 constructor
 .intro h;exact Qdf (by omega)
 .intro h;rcases Int.lt_trichotomy x.num 0 with k|k|k
  .exact absurd (Rat.num_nonneg.2 (Rat.le_of_lt h)) (by omega)
  .exact absurd (Rat.num_eq_zero.1 k) (Rat.ne_of_gt h)
  .rw[Int.sign_eq_one_of_pos k];decide
def Ksw(z w:QC):nm (z-w)=nm (w-z):=by simp only[nm,qsr,qsi];grind
def Kbx(z w:QC):Qdy z w=Qdy w z:=by
 unfold Qdy;rw[Ksw z w,Rat.mul_comm z.im]
def Kbu(x z w:QC):Rat:=Qdy z w-Qdy x z*Qdy x w
def Ucx(x z w:QC):Rat:=(Qdy x z*Qdy x z-1)*(Qdy x w*Qdy x w-1)
def fe1{z w:QC}(hz:0<z.im)(hw:0<w.im):(1:Rat)+nm (z-w)/(z.im*w.im)*(2:Rat)/(4:Rat)=Qdy z w:=by
 have h:=pne (Qdv hz hw);unfold Qdy;grind
def Uqw(x z w:QC)(hx:0<x.im)(hz:0<z.im)(hw:0<w.im):wt9 x z w=Kbu x z w:=by
 simp only[wt9,wt6,wt5,wt2,wt1,wt4,wt3];rw[fe1 hx hz,fe1 hx hw,fe1 hz hw];rfl
def Uki(x z w:QC)(hx:0<x.im)(hz:0<z.im)(hw:0<w.im):Ued x z w=Kbu x z w*Kbu x z w/Ucx x z w:=by
 simp only[Ued,wt9,wt6,wt5,wt2,wt1,wt4,wt3,wt7,wt8];rw[fe1 hx hz,fe1 hx hw,fe1 hz hw];rfl
def Ura(x z w:QC)(hx:0<x.im)(hz:0<z.im)(hw:0<w.im):Qmg z x w=Kbu x z w:=by
 simp only[Qmg,wt6,wt5,Kah,Uir,wt4,wt3];rw[fe1 hx hz,fe1 hx hw,fe1 hz hw];rfl
def Urc(x z w:QC)(hx:0<x.im)(hz:0<z.im)(hw:0<w.im):(Klq z x)*(wt8 x w)=Ucx x z w:=by
 simp only[Klq,Kah,Uir,wt8,wt4,wt3];rw[fe1 hx hz,fe1 hx hw];rfl
def Kbz(z w:QC):Qdo z w=Qdo w z:=by
 unfold Qdo;rw[Ksw z w,Rat.mul_comm (1-nm z)]
def Kbv(x z w:QC):Rat:=Qdo z w-Qdo x z*Qdo x w
def Ucy(x z w:QC):Rat:=(Qdo x z*Qdo x z-1)*(Qdo x w*Qdo x w-1)
def fe2{z w:QC}(hz:0<(1-nm z))(hw:0<(1-nm w)):(1:Rat)+nm (z-w)/((1-nm z)*(1-nm w))*(2:Rat)/(1:Rat)=Qdo z w:=by
 have h:=pne (Qdv hz hw);unfold Qdo;grind
def Uqx(x z w:QC)(hx:0<(1-nm x))(hz:0<(1-nm z))(hw:0<(1-nm w)):Kaf x z w=Kbv x z w:=by
 simp only[Kaf,Kxl,Kxk,Kxj,Qxj,Uef,Uee,Qmt,Kqd,Kqc];rw[fe2 hx hz,fe2 hx hw,fe2 hz hw];rfl
def Ukj(x z w:QC)(hx:0<(1-nm x))(hz:0<(1-nm z))(hw:0<(1-nm w)):Uim x z w=Kbv x z w*Kbv x z w/Ucy x z w:=by
 simp only[Uim,Kaf,Kxl,Kxk,Kxj,Qxj,Uef,Uee,Qmt,Kqd,Kqc,Kxm,Qui];rw[fe2 hx hz,fe2 hx hw,fe2 hz hw];rfl
def Urb(x z w:QC)(hx:0<(1-nm x))(hz:0<(1-nm z))(hw:0<(1-nm w)):Qmh z x w=Kbv x z w:=by
 simp only[Qmh,Kxl,Kxk,Kxj,Kaj,Uit,Uis,Qmt,Kqd,Kqc];rw[fe2 hx hz,fe2 hx hw,fe2 hz hw];rfl
def Urd(x z w:QC)(hx:0<(1-nm x))(hz:0<(1-nm z))(hw:0<(1-nm w)):(Klr z x)*(Qui x w)=Ucy x z w:=by
 simp only[Klr,Kaj,Uit,Uis,Qui,Qmt,Kqd,Kqc];rw[fe2 hx hz,fe2 hx hw];rfl
def sg0{x:Rat}(h:x=0):x.num.sign=0:=by subst h;rfl
def sgz{x:Rat}(h:x.num.sign=0):x=0:=Rat.num_eq_zero.1 (Int.sign_eq_zero_iff_zero.1 h)
structure CO(a b e d:Rat):Prop where
 wh:Qvm a b e d
 sa:Qar a
 sb:Qar b
 se:Qar e
 sd:Qar d
 hp:0<Qao a b e d a b e d
 nf:a=1\/(a=0/\b=1)\/(a=0/\b=0/\e=1)
def Kbn{f0 f1 f2 f3:Rat}(hP:0<Qao f0 f1 f2 f3 f0 f1 f2 f3)(hs:Qno f0 f1 f2 f3):CO (f0/byF f0 f1 f2) (f1/byF f0 f1 f2) (f2/byF f0 f1 f2) (f3/byF f0 f1 f2):=by
 have hb:=Qld hP;have hp:0<Qao (f0/byF f0 f1 f2) (f1/byF f0 f1 f2) (f2/byF f0 f1 f2) (f3/byF f0 f1 f2) (f0/byF f0 f1 f2) (f1/byF f0 f1 f2) (f2/byF f0 f1 f2) (f3/byF f0 f1 f2):=by
  rw[Unv,Rat.div_def];exact Qdv hP (Rat.inv_pos.2 (by have:=rsq (byF f0 f1 f2);have:=Qve hb;grind))
 obtain⟨s0,s1,s2,s3⟩:=hs;have h1:∀ x:Rat,x≠0→x/x=1:=fun x h=>by grind
 by_cases k0:f0=0
 .subst k0
  by_cases k1:f1=0
  .subst k1;have e:byF 0 0 f2=f2:=by unfold byF;rw[if_pos rfl,if_pos rfl]
   rw[e] at hb hp s0 s1 s2 s3 ⊢;simp only[Qxm,h1 f2 hb] at hp s0 s1 s2 s3 ⊢;exact⟨Uok _ s3 (by grind),s0,s1,s2,s3,hp,.inr (.inr ⟨rfl,rfl,rfl⟩)⟩
  .have e:byF 0 f1 f2=f1:=by unfold byF;rw[if_pos rfl,if_neg k1]
   rw[e] at hb hp s0 s1 s2 s3 ⊢;simp only[Qxm,h1 f1 k1] at hp s0 s1 s2 s3 ⊢;exact⟨Udt _ _ s2 s3 (by have:=rsq (f2/f1);grind),s0,s1,s2,s3,hp,.inr (.inl ⟨rfl,rfl⟩)⟩
 .have e:byF f0 f1 f2=f0:=by unfold byF;rw[if_neg k0]
  rw[e] at hb hp s0 s1 s2 s3 ⊢;simp only[h1 f0 k0] at hp s0 s1 s2 s3 ⊢;exact⟨Uoj _ _ _ s1 s2 s3 (by unfold Qao at hp;grind),s0,s1,s2,s3,hp,.inl rfl⟩
section
variable{a b e d:Rat}{z w x:QC}
def CO.on1(C:CO a b e d)(sz:Qac z)(h:vl a b e d z=0):hOx (Qea a) (Qah ⟨b,e⟩) (Qea d) z :=
 Uwy a b e d z (Qde C.sa) (Qde C.sb) (Qde C.se) (Qde C.sd) sz (sg0 (by rw[←h];simp only[wz8,wz7,vl,nm,qmr,qmi];grind)) C.wh
def CO.on2(C:CO a b e d)(sz:Qac z)(sw:Qac w)(h:vl a b e d z=0)(k:vl a b e d w=0):Uyy (Qea a) (Qah ⟨b,e⟩) (Qea d) z w :=
 Uwz a b e d z w (Qde C.sa) (Qde C.sb) (Qde C.se) (Qde C.sd) sz sw (sg0 (by rw[←h];simp only[wz8,wz7,vl,nm,qmr,qmi];grind)) (sg0 (by rw[←k];simp only[Ujm,wz9,vl,nm,qmr,qmi];grind)) C.wh
end
variable{v:V5}
def CO.bd(C:CO v.a v.b v.e v.d)(sz:Qac v.z):v.O:=⟨C.sa,C.sb,C.se,C.sd,sz⟩
def CO.is1(C:CO v.a v.b v.e v.d)(hq:Qao v.a v.b v.e v.d 0 0 1 0=0):hI 1 (Qea v.a) (Qah ⟨v.b,v.e⟩) (Qea v.d) :=
 Uyk ⟨v.a,v.b,v.e,v.d,⟨0,0⟩⟩ ⟨C.sa,C.sb,C.se,C.sd,(show Qac (⟨0,0⟩:QC) from Qcq (by decide +kernel))⟩ (sg0 hq) C.wh
def CO.up1(C:CO v.a v.b v.e v.d)(sz:Qac v.z)(hz:0<v.z.im)(hq:Qao v.a v.b v.e v.d 0 0 1 0=0)(hs:Qno (Qbp v) (Qcw v) (Qcx v) (Qdz v))(hP:0<Qao (Qbp v) (Qcw v) (Qcx v) (Qdz v) (Qbp v) (Qcw v) (Qcx v) (Qdz v)) :
  hU 1 (Qea v.a) (Qah ⟨v.b,v.e⟩) (Qea v.d) v.z (Qea ((Qbp v)/byF (Qbp v) (Qcw v) (Qcx v))) (Qah ⟨(Qcw v)/byF (Qbp v) (Qcw v) (Qcx v),(Qcx v)/byF (Qbp v) (Qcw v) (Qcx v)⟩) (Qea ((Qdz v)/byF (Qbp v) (Qcw v) (Qcx v))) :=
 Uyo v (C.bd sz) (Qgz hz) (sg0 hq) hs C.wh hP
def CO.ov1{w:QC}(C:CO v.a v.b v.e v.d)(sz:Qac v.z)(hz:0<v.z.im)(hq:Qao v.a v.b v.e v.d 0 0 1 0=0)(nd:rfD v.a v.b v.e v.d v.z≠⟨0,0⟩)(e:rfN v.a v.b v.e v.d v.z/rfD v.a v.b v.e v.d v.z=w)(hs:Qac w):hV 1 (Qea v.a) (Qah ⟨v.b,v.e⟩) (Qea v.d) v.z w:=by
 have eD:(Kph v)+(Kbc v)=rfD v.a v.b v.e v.d v.z:=by apply Qcs<;>simp only[Kph,Kbc,rfN,rfD,cj,qmr,qmi,qar,qai,qsr,qsi,ng]<;>grind
 have eN:(Ueh v)=rfN v.a v.b v.e v.d v.z:=by apply Qcs<;>simp only[Ueh,Ueg,Kbc,rfN,rfD,cj,qmr,qmi,qar,qai,qsr,qsi,ng]<;>grind
 have eX:Kvy v=w:=by
  rw[<-e,<-eD,<-eN];rfl
 have k:=Uym v (C.bd sz) (Qgz hz) (by rw[eD];exact nd) (sg0 hq) (by rw[eX];exact hs) C.wh;rw[eX] at k;exact k
def CO.is2(C:CO v.a v.b v.e v.d)(hq:Qao v.a v.b v.e v.d 1 0 0 (-1)=0):hI 2 (Qea v.a) (Qah ⟨v.b,v.e⟩) (Qea v.d) :=
 Uyl ⟨v.a,v.b,v.e,v.d,⟨0,0⟩⟩ ⟨C.sa,C.sb,C.se,C.sd,(show Qac (⟨0,0⟩:QC) from Qcq (by decide +kernel))⟩ (sg0 hq) C.wh
def CO.up2(C:CO v.a v.b v.e v.d)(sz:Qac v.z)(hz:0<1-nm v.z)(hq:Qao v.a v.b v.e v.d 1 0 0 (-1)=0)(hs:Qno (Qbm v) (Qcu v) (Qcv v) (Qdx v))(hP:0<Qao (Qbm v) (Qcu v) (Qcv v) (Qdx v) (Qbm v) (Qcu v) (Qcv v) (Qdx v)) :
  hU 2 (Qea v.a) (Qah ⟨v.b,v.e⟩) (Qea v.d) v.z (Qea ((Qbm v)/byF (Qbm v) (Qcu v) (Qcv v))) (Qah ⟨(Qcu v)/byF (Qbm v) (Qcu v) (Qcv v),(Qcv v)/byF (Qbm v) (Qcu v) (Qcv v)⟩) (Qea ((Qdx v)/byF (Qbm v) (Qcu v) (Qcv v))) :=
 Uyp v (C.bd sz) (Qgz hz) (sg0 hq) hs C.wh hP
def CO.ov2{w:QC}(C:CO v.a v.b v.e v.d)(sz:Qac v.z)(hz:0<1-nm v.z)(hq:Qao v.a v.b v.e v.d 1 0 0 (-1)=0)(nd:rfD v.a v.b v.e v.d v.z≠⟨0,0⟩)(e:rfN v.a v.b v.e v.d v.z/rfD v.a v.b v.e v.d v.z=w)(hs:Qac w):hV 2 (Qea v.a) (Qah ⟨v.b,v.e⟩) (Qea v.d) v.z w:=by
 have eD:(Kph v)+(Kbc v)=rfD v.a v.b v.e v.d v.z:=by apply Qcs<;>simp only[Kph,Kbc,rfN,rfD,cj,qmr,qmi,qar,qai,qsr,qsi,ng]<;>grind
 have eN:(Ueh v)=rfN v.a v.b v.e v.d v.z:=by apply Qcs<;>simp only[Ueh,Ueg,Kbc,rfN,rfD,cj,qmr,qmi,qar,qai,qsr,qsi,ng]<;>grind
 have eX:Kvy v=w:=by
  rw[<-e,<-eD,<-eN];rfl
 have k:=Uyn v (C.bd sz) (Qgz hz) (by rw[eD];exact nd) (sg0 hq) (by rw[eX];exact hs) C.wh;rw[eX] at k;exact k
def Qrc(q:Rat):(sqr q=0\/sqr q*sqr q=q)/\(-sqr q=0∨-sqr q*-sqr q=q):=by
 by_cases h:Qjx q
 .have k:=(Qlq h).2;exact⟨.inr k,.inr (by rw[←k];grind)⟩
 .have k:sqr q=0:=dif_neg h;exact⟨.inl k,.inl (by rw[k];rfl)⟩
def Ucz{b e d u0 u1 u2 u3:Rat}(hP:0<Qao u0 u1 u2 u3 u0 u1 u2 u3)(hO:Qao u0 u1 u2 u3 1 b e d=0)(hC:0<Qao 1 b e d 1 b e d):0<fN (u1*1-b*u0) (u2*1-e*u0):=by
 have c:fN (u1*1-b*u0) (u2*1-e*u0)=Qao u0 u1 u2 u3 u0 u1 u2 u3-2*(u0*Qao u0 u1 u2 u3 1 b e d)+u0*u0*Qao 1 b e d 1 b e d:=by unfold fN Qao;grind
 have c2:=Rat.mul_nonneg (rsq u0) (Rat.le_of_lt hC);rw[hO] at c;rw[c];generalize Qao u0 u1 u2 u3 u0 u1 u2 u3=A at *
 generalize u0*u0*Qao 1 b e d 1 b e d=B at *
 grind
def Klk{a b e d:Rat}{z:QC}(he:e=0)(hz:0<z.im)(hp:0<Qao a b e d a b e d):0<Qao (upr 1 a b e d z).1 (upr 1 a b e d z).2.1 (upr 1 a b e d z).2.2.1 (upr 1 a b e d z).2.2.2 (upr 1 a b e d z).1 (upr 1 a b e d z).2.1 (upr 1 a b e d z).2.2.1 (upr 1 a b e d z).2.2.2:=by
 subst he;exact Keb hz hp
def Kll{a b e d:Rat}{z:QC}(he:a=d)(hz:0<1-nm z)(hp:0<Qao a b e d a b e d):0<Qao (upr 2 a b e d z).1 (upr 2 a b e d z).2.1 (upr 2 a b e d z).2.2.1 (upr 2 a b e d z).2.2.2 (upr 2 a b e d z).1 (upr 2 a b e d z).2.1 (upr 2 a b e d z).2.2.1 (upr 2 a b e d z).2.2.2:=by
 subst he;exact Klj hz hp
def Uro(v:V5):(Kat v)+v.d=fV v.b v.e v.d (Qbp v) (Qcw v) (Qcx v):=by
 simp only[Qdt,Kpi,Qla,Uei,Uej,Kqe,Kat,fV,cj,qmr,qmi,qsr,qsi,Rat.div_def];grind
def Upt(v:V5):nm (Qdt v)=fN v.b v.e:=by
 simp only[Qdt,nm,fN,qmr,qmi,qsr,qsi];grind
def Urn(v:V5):Kpj v=fQ v.b v.e v.d (Qbp v) (Qcw v) (Qcx v) (Qdz v):=by
 have x:=Uro v;have n:=Upt v;simp only[Kpj,Uqj,Uot,Uqg,Uqh,Uou,Uqi,Kat,Kqe,Uej,Uei,Qla,Kpi,Qdt] at x n ⊢;unfold fQ;rw[<-x,<-n]
def Uxe(v:V5):Qvj v=fX v.b v.e v.d (Qbp v) (Qcw v) (Qcx v) (sqr (fQ v.b v.e v.d (Qbp v) (Qcw v) (Qcx v) (Qdz v))):=by
 have x:=Uro v;have n:=Upt v;rw[←Urn v];unfold fX ctX;rw[←x,←n];apply Qcs<;>simp only[Qvj,Ujo,Uej,Uei,Qla,Kpi,Uos,Qdt,Ujn,Kat,Kqe,Uek,qar,qai,qsr,qsi,qmr,qmi,Rat.div_def]<;>grind
def Uxd(v:V5):Kwh v=fX v.b v.e v.d (Qbp v) (Qcw v) (Qcx v) (-sqr (fQ v.b v.e v.d (Qbp v) (Qcw v) (Qcx v) (Qdz v))):=by
 have x:=Uro v;have n:=Upt v;rw[←Urn v];unfold fX ctX;rw[←x,←n];apply Qcs<;>simp only[Kwh,Ujo,Uej,Uei,Qla,Kpi,Uos,Qdt,Ujn,Kat,Kqe,Uek,qar,qai,qsr,qsi,qmr,qmi,Rat.div_def]<;>grind
def Urm(v:V5):Kqg v=fV (Qcw v) (Qcx v) (Qdz v) v.a v.b v.e:=by
 simp only[Qdt,Kpi,Qla,Qpd,Kqf,Uel,Kqg,fV,cj,qmr,qmi,qsr,qsi,Rat.div_def];grind
def Ups(v:V5):nm (Qla v)=fN (Qcw v) (Qcx v):=by
 simp only[Qla,Kpi,nm,fN,qmr,qmi,qsr,qsi];grind
def Url(v:V5):Kwp v=fQ (Qcw v) (Qcx v) (Qdz v) v.a v.b v.e v.d:=by
 have x:=Urm v;have n:=Ups v;simp only[Kwp,Uqm,Keu,Uoy,Uqk,Kqg,Uel,Kqf,Qpd,Qdt,Qla,Kpi,Uql] at x n ⊢;unfold fQ;rw[<-x,<-n]
def Uxc(v:V5):Kav v=fX (Qcw v) (Qcx v) (Qdz v) v.a v.b v.e (sqr (fQ (Qcw v) (Qcx v) (Qdz v) v.a v.b v.e v.d)):=by
 have x:=Urm v;have n:=Ups v;rw[←Url v];unfold fX ctX;rw[←x,←n];apply Qcs<;>simp only[Kav,Ujq,Qpd,Qdt,Uox,Qla,Kpi,Ujp,Kqg,Uel,Kqf,Uow,Ujs,Ujr,qar,qai,qsr,qsi,qmr,qmi,Rat.div_def]<;>grind
def Uxb(v:V5):Ucc v=fX (Qcw v) (Qcx v) (Qdz v) v.a v.b v.e (-sqr (fQ (Qcw v) (Qcx v) (Qdz v) v.a v.b v.e v.d)):=by
 have x:=Urm v;have n:=Ups v;rw[←Url v];unfold fX ctX;rw[←x,←n];apply Qcs<;>simp only[Ucc,Ujq,Qpd,Qdt,Uox,Qla,Kpi,Ujp,Kqg,Uel,Kqf,Uow,Ujs,Ujr,qar,qai,qsr,qsi,qmr,qmi,Rat.div_def]<;>grind
def Urq(v:V5):Kqi v=fV ((Qcw v)*v.a-v.b*(Qbp v)) ((Qcx v)*v.a-v.e*(Qbp v)) ((Qdz v)*v.a-v.d*(Qbp v)) v.a v.b v.e:=by
 simp only[Qdt,Qpd,Kxn,Kxo,Uem,Uen,Qnn,Kqh,Ueo,Kqi,fV,cj,qmr,qmi,qsr,qsi,Rat.div_def];grind
def Upu(v:V5):nm (Qnn v)=fN ((Qcw v)*v.a-v.b*(Qbp v)) ((Qcx v)*v.a-v.e*(Qbp v)):=by
 simp only[Qnn,Kxn,Uen,Kxo,nm,fN,qmr,qmi,qsr,qsi];grind
def Urp(v:V5):Kxb v=fQ ((Qcw v)*v.a-v.b*(Qbp v)) ((Qcx v)*v.a-v.e*(Qbp v)) ((Qdz v)*v.a-v.d*(Qbp v)) v.a v.b v.e v.d:=by
 have x:=Urq v;have n:=Upu v;simp only[Kxb,Uqp,Keu,Upc,Uqn,Kqi,Ueo,Kqh,Qpd,Qdt,Qnn,Kxn,Uen,Kxo,Uem,Uqo] at x n ⊢;unfold fQ;rw[<-x,<-n]
def Uxg(v:V5):Kax v=fX ((Qcw v)*v.a-v.b*(Qbp v)) ((Qcx v)*v.a-v.e*(Qbp v)) ((Qdz v)*v.a-v.d*(Qbp v)) v.a v.b v.e (sqr (fQ ((Qcw v)*v.a-v.b*(Qbp v)) ((Qcx v)*v.a-v.e*(Qbp v)) ((Qdz v)*v.a-v.d*(Qbp v)) v.a v.b v.e v.d)):=by
 have x:=Urq v;have n:=Upu v;rw[←Urp v];unfold fX ctX;rw[←x,←n];apply Qcs<;>simp only[Kax,Uju,Qpd,Qdt,Upb,Qnn,Kxn,Uen,Kxo,Ujt,Kqi,Ueo,Kqh,Uem,Upa,Ujw,Ujv,qar,qai,qsr,qsi,qmr,qmi,Rat.div_def]<;>grind
def Uxf(v:V5):Ucd v=fX ((Qcw v)*v.a-v.b*(Qbp v)) ((Qcx v)*v.a-v.e*(Qbp v)) ((Qdz v)*v.a-v.d*(Qbp v)) v.a v.b v.e (-sqr (fQ ((Qcw v)*v.a-v.b*(Qbp v)) ((Qcx v)*v.a-v.e*(Qbp v)) ((Qdz v)*v.a-v.d*(Qbp v)) v.a v.b v.e v.d)):=by
 have x:=Urq v;have n:=Upu v;rw[←Urp v];unfold fX ctX;rw[←x,←n];apply Qcs<;>simp only[Ucd,Uju,Qpd,Qdt,Upb,Qnn,Kxn,Uen,Kxo,Ujt,Kqi,Ueo,Kqh,Uem,Upa,Ujw,Ujv,qar,qai,qsr,qsi,qmr,qmi,Rat.div_def]<;>grind
def Uru(v:V5):(Kaz v)+v.d=fV v.b v.e v.d (Qbm v) (Qcu v) (Qcv v):=by
 simp only[Qdt,Kpk,Qlb,Uep,Ueq,Kqj,Kaz,fV,cj,qmr,qmi,qsr,qsi,Rat.div_def];grind
def Upw(v:V5):nm (Qdt v)=fN v.b v.e:=by
 simp only[Qdt,nm,fN,qmr,qmi,qsr,qsi];grind
def Urt(v:V5):Qum v=fQ v.b v.e v.d (Qbm v) (Qcu v) (Qcv v) (Qdx v):=by
 have x:=Uru v;have n:=Upw v;simp only[Qum,Ubs,Upe,Uqq,Uqr,Upf,Uqs,Kaz,Kqj,Ueq,Uep,Qlb,Kpk,Qdt] at x n ⊢;unfold fQ;rw[<-x,<-n]
def Uxk(v:V5):Qre v=fX v.b v.e v.d (Qbm v) (Qcu v) (Qcv v) (sqr (fQ v.b v.e v.d (Qbm v) (Qcu v) (Qcv v) (Qdx v))):=by
 have x:=Uru v;have n:=Upw v;rw[←Urt v];unfold fX ctX;rw[←x,←n];apply Qcs<;>simp only[Qre,Ujy,Ueq,Uep,Qlb,Kpk,Upd,Qdt,Ujx,Kaz,Kqj,Koy,qar,qai,qsr,qsi,qmr,qmi,Rat.div_def]<;>grind
def Uxj(v:V5):Kal v=fX v.b v.e v.d (Qbm v) (Qcu v) (Qcv v) (-sqr (fQ v.b v.e v.d (Qbm v) (Qcu v) (Qcv v) (Qdx v))):=by
 have x:=Uru v;have n:=Upw v;rw[←Urt v];unfold fX ctX;rw[←x,←n];apply Qcs<;>simp only[Kal,Ujy,Ueq,Uep,Qlb,Kpk,Upd,Qdt,Ujx,Kaz,Kqj,Koy,qar,qai,qsr,qsi,qmr,qmi,Rat.div_def]<;>grind
def Urs(v:V5):Qrg v=fV (Qcu v) (Qcv v) (Qdx v) v.a v.b v.e:=by
 simp only[Qdt,Qpd,Kpk,Qlb,Qrf,Keo,Qrg,fV,cj,qmr,qmi,qsr,qsi,Rat.div_def];grind
def Upv(v:V5):nm (Qlb v)=fN (Qcu v) (Qcv v):=by
 simp only[Qlb,Kpk,nm,fN,qmr,qmi,qsr,qsi];grind
def Urr(v:V5):Qun v=fQ (Qcu v) (Qcv v) (Qdx v) v.a v.b v.e v.d:=by
 have x:=Urs v;have n:=Upv v;simp only[Qun,Ubw,Keu,Kvu,Ubu,Qrg,Keo,Qrf,Qpd,Qdt,Qlb,Kpk,Ubv] at x n ⊢;unfold fQ;rw[<-x,<-n]
def Uxi(v:V5):Qrh v=fX (Qcu v) (Qcv v) (Qdx v) v.a v.b v.e (sqr (fQ (Qcu v) (Qcv v) (Qdx v) v.a v.b v.e v.d)):=by
 have x:=Urs v;have n:=Upv v;rw[←Urr v];unfold fX ctX;rw[←x,←n];apply Qcs<;>simp only[Qrh,Kpa,Qpd,Qdt,Kvt,Qlb,Kpk,Koz,Qrg,Keo,Qrf,Kvs,Kpc,Kpb,qar,qai,qsr,qsi,qmr,qmi,Rat.div_def]<;>grind
def Uxh(v:V5):Kao v=fX (Qcu v) (Qcv v) (Qdx v) v.a v.b v.e (-sqr (fQ (Qcu v) (Qcv v) (Qdx v) v.a v.b v.e v.d)):=by
 have x:=Urs v;have n:=Upv v;rw[←Urr v];unfold fX ctX;rw[←x,←n];apply Qcs<;>simp only[Kao,Kpa,Qpd,Qdt,Kvt,Qlb,Kpk,Koz,Qrg,Keo,Qrf,Kvs,Kpc,Kpb,qar,qai,qsr,qsi,qmr,qmi,Rat.div_def]<;>grind
def Urw(v:V5):Qrj v=fV ((Qcu v)*v.a-v.b*(Qbm v)) ((Qcv v)*v.a-v.e*(Qbm v)) ((Qdx v)*v.a-v.d*(Qbm v)) v.a v.b v.e:=by
 simp only[Qdt,Qpd,Qvh,Qvi,Keq,Ker,Qgu,Qri,Kes,Qrj,fV,cj,qmr,qmi,qsr,qsi,Rat.div_def];grind
def Upx(v:V5):nm (Qgu v)=fN ((Qcu v)*v.a-v.b*(Qbm v)) ((Qcv v)*v.a-v.e*(Qbm v)):=by
 simp only[Qgu,Qvh,Ker,Qvi,nm,fN,qmr,qmi,qsr,qsi];grind
def Urv(v:V5):Qup v=fQ ((Qcu v)*v.a-v.b*(Qbm v)) ((Qcv v)*v.a-v.e*(Qbm v)) ((Qdx v)*v.a-v.d*(Qbm v)) v.a v.b v.e v.d:=by
 have x:=Urw v;have n:=Upx v;simp only[Qup,Uca,Keu,Kvx,Uby,Qrj,Kes,Qri,Qpd,Qdt,Qgu,Qvh,Ker,Qvi,Keq,Ubz] at x n ⊢;unfold fQ;rw[<-x,<-n]
def Uxm(v:V5):Qrk v=fX ((Qcu v)*v.a-v.b*(Qbm v)) ((Qcv v)*v.a-v.e*(Qbm v)) ((Qdx v)*v.a-v.d*(Qbm v)) v.a v.b v.e (sqr (fQ ((Qcu v)*v.a-v.b*(Qbm v)) ((Qcv v)*v.a-v.e*(Qbm v)) ((Qdx v)*v.a-v.d*(Qbm v)) v.a v.b v.e v.d)):=by
 have x:=Urw v;have n:=Upx v;rw[←Urv v];unfold fX ctX;rw[←x,←n];apply Qcs<;>simp only[Qrk,Kpe,Qpd,Qdt,Kvw,Qgu,Qvh,Ker,Qvi,Kpd,Qrj,Kes,Qri,Keq,Kvv,Kpg,Kpf,qar,qai,qsr,qsi,qmr,qmi,Rat.div_def]<;>grind
def Uxl(v:V5):Kar v=fX ((Qcu v)*v.a-v.b*(Qbm v)) ((Qcv v)*v.a-v.e*(Qbm v)) ((Qdx v)*v.a-v.d*(Qbm v)) v.a v.b v.e (-sqr (fQ ((Qcu v)*v.a-v.b*(Qbm v)) ((Qcv v)*v.a-v.e*(Qbm v)) ((Qdx v)*v.a-v.d*(Qbm v)) v.a v.b v.e v.d)):=by
 have x:=Urw v;have n:=Upx v;rw[←Urv v];unfold fX ctX;rw[←x,←n];apply Qcs<;>simp only[Kar,Kpe,Qpd,Qdt,Kvw,Qgu,Qvh,Ker,Qvi,Kpd,Qrj,Kes,Qri,Keq,Kvv,Kpg,Kpf,qar,qai,qsr,qsi,qmr,qmi,Rat.div_def]<;>grind
