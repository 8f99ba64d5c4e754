/- Laws. -/
import Derived.Test.YtcjjdooeogmdbaaGreatVbq
set_option linter.all false
set_option maxHeartbeats 4000000
set_option maxRecDepth 100000
namespace Go.Proofs.YtcjjdooeogmdbaaGreat
open Go.RowKit Tr Proofs.Tryz
open Classical
def Qgo:FnsOk prog [⟨12,Tryz.f12,2000⟩,⟨63,Tryz.f63,2000⟩,⟨134,Tryz.f134,2000⟩,⟨133,Tryz.f133,2000⟩]:=(Uln (Uxt (Usm (Kyt .nil))))
def Uyi(p:Int)(x z w:Qeb)(hp1:¬(p=1))(hp2:¬(p=2)):SMt 18 [(x.cells++z.cells++w.cells,28)] [.f (.c (gxi p)),.sl 0 0 3 3] (.r (gIi 2)) :=
  Qcr (L := [[gxi p],x.cells,z.cells,w.cells].flatten) Qai Qap
     []
     [bI .eql 22 (.sym 0) (li 1) p 1 false (by simp[Qch,hp1]),bI .eql 22 (.sym 0) (li 2) p 2 false (by simp[Qch,hp2])] [] Qgo 1 3 func18 eo18 2000 [⟨Qba 1 24,28,none⟩] [cS 0,.c (.sl 0 0 3 3)] (.r (lc 2))
def Unc(x z w:Qeb)(nk:¬(GOk x.val)):SMt 18 [(x.cells++z.cells++w.cells,28)] [.f (gIi 1),.sl 0 0 3 3] (.r (gIi 2)) :=
  Qcr (L := [x.cells,z.cells,w.cells].flatten) Qai Qap
     [gs (Qfi x false (fI nk)) [yR 0 8] vFf]
     [] [] Qgo 1 3 func18 eo18 2000 [⟨Qba 0 24,28,none⟩] [lc 1,.c (.sl 0 0 3 3)] (.r (lc 2))
def Kjh(x:QC)(z w:Qeb):List GF:=[(Qah x).cells,z.cells,w.cells,[gxi x.im.num.sign]].flatten
def Und(x:QC)(z w:Qeb)(b_x:Qac x)(nk:¬(GOk z.val)):SMt 18 [((Qah x).cells++z.cells++w.cells,28)] [.f (gIi 1),.sl 0 0 3 3] (.r (gIi 2)) :=
  (Classical.em (x.im.num.sign > 0)).elim (fun h0 => Qcr (L := Kjh x z w) Qai Qap
     [gs (Qfi (Qah x) true (tI (Qcl b_x))) [yR 0 8] vTt,gs (Qco x.im) [yR 4 4] (rS 24),gs (Qfi z false (fI nk)) [yR 8 8] vFf]
     [gtY 3 (.sym 24) (li 0) x.im.num.sign 0 h0] [] Qgo 1 3 func18 eo18 2000 [⟨Qba 0 24,28,none⟩] [lc 1,.c (.sl 0 0 3 3)] (.r (lc 2)))
   (fun h0=>Qcr (L:=Kjh x z w) Qai Qap
     [gs (Qfi (Qah x) true (tI (Qcl b_x))) [yR 0 8] vTt,gs (Qco x.im) [yR 4 4] (rS 24),gs (Qfi z false (fI nk)) [yR 8 8] vFf]
     [gtN 3 (.sym 24) (li 0) x.im.num.sign 0 h0] [] Qgo 1 3 func18 eo18 2000 [⟨Qba 0 24,28,none⟩] [lc 1,.c (.sl 0 0 3 3)] (.r (lc 2)))
def Qod(x z:QC)(w:Qeb):List GF:=[(Qah x).cells,(Qah z).cells,w.cells,[gxi x.im.num.sign,gxi z.im.num.sign]].flatten
noncomputable def Qoe(x z:QC)(w:Qeb)(b_x:Qac x)(b_z:Qac z)(nk:¬(GOk w.val)):List (GC prog (Qod x z w) true):=[gs (Qfi (Qah x) true (tI (Qcl b_x))) [yR 0 8] vTt,gs (Qco x.im) [yR 4 4] (rS 24),gs (Qfi (Qah z) true (tI (Qcl b_z))) [yR 8 8] vTt,gs (Qco z.im) [yR 12 4] (rS 25),gs (Qfi w false (fI nk)) [yR 16 8] vFf]
def Une(x z:QC)(w:Qeb)(b_x:Qac x)(b_z:Qac z)(nk:¬(GOk w.val)):SMt 18 [((Qah x).cells++(Qah z).cells++w.cells,28)] [.f (gIi 1),.sl 0 0 3 3] (.r (gIi 2)) :=
  (Classical.em (x.im.num.sign > 0)).elim (fun h0 => (Classical.em (z.im.num.sign > 0)).elim (fun h1 => Qcr (L := Qod x z w) Qai Qap
     (Qoe x z w b_x b_z nk)
     [gtY 3 (.sym 24) (li 0) x.im.num.sign 0 h0,gtY 3 (.sym 25) (li 0) z.im.num.sign 0 h1] [] Qgo 1 3 func18 eo18 2000 [⟨Qba 0 24,28,none⟩] [lc 1,.c (.sl 0 0 3 3)] (.r (lc 2)))
   (fun h1=>Qcr (L:=Qod x z w) Qai Qap
     (Qoe x z w b_x b_z nk)
     [gtY 3 (.sym 24) (li 0) x.im.num.sign 0 h0,gtN 3 (.sym 25) (li 0) z.im.num.sign 0 h1] [] Qgo 1 3 func18 eo18 2000 [⟨Qba 0 24,28,none⟩] [lc 1,.c (.sl 0 0 3 3)] (.r (lc 2))))
   (fun h0=>(Classical.em (z.im.num.sign>0)).elim (fun h1=>Qcr (L:=Qod x z w) Qai Qap
     (Qoe x z w b_x b_z nk)
     [gtN 3 (.sym 24) (li 0) x.im.num.sign 0 h0,gtY 3 (.sym 25) (li 0) z.im.num.sign 0 h1] [] Qgo 1 3 func18 eo18 2000 [⟨Qba 0 24,28,none⟩] [lc 1,.c (.sl 0 0 3 3)] (.r (lc 2)))
   (fun h1=>Qcr (L:=Qod x z w) Qai Qap
     (Qoe x z w b_x b_z nk)
     [gtN 3 (.sym 24) (li 0) x.im.num.sign 0 h0,gtN 3 (.sym 25) (li 0) z.im.num.sign 0 h1] [] Qgo 1 3 func18 eo18 2000 [⟨Qba 0 24,28,none⟩] [lc 1,.c (.sl 0 0 3 3)] (.r (lc 2))))
def Qll(x z w:QC):List GF:=[(Qah x).cells,(Qah z).cells,(Qah w).cells,[gxi x.im.num.sign,gxi z.im.num.sign,gxi w.im.num.sign]].flatten
noncomputable def Qma(x z w:QC)(b_x:Qac x)(b_z:Qac z)(b_w:Qac w):List (GC prog (Qll x z w) true):=[gs (Qfi (Qah x) true (tI (Qcl b_x))) [yR 0 8] vTt,gs (Qco x.im) [yR 4 4] (rS 24),gs (Qfi (Qah z) true (tI (Qcl b_z))) [yR 8 8] vTt,gs (Qco z.im) [yR 12 4] (rS 25),gs (Qfi (Qah w) true (tI (Qcl b_w))) [yR 16 8] vTt,gs (Qco w.im) [yR 20 4] (rS 26)]
def Ugd(x z w:QC)(b_x:Qac x)(b_z:Qac z)(b_w:Qac w)(hx:hO1 x):SMt 18 [((Qah x).cells++(Qah z).cells++(Qah w).cells,28)] [.f (gIi 1),.sl 0 0 3 3] (.r (gIi 350)) :=
  (Classical.em (z.im.num.sign > 0)).elim (fun h0 => (Classical.em (w.im.num.sign > 0)).elim (fun h1 => Qcr (L := Qll x z w) Qai Qap
     (Qma x z w b_x b_z b_w)
     [gtN 3 (.sym 24) (li 0) x.im.num.sign 0 (Kkv hx),gtY 3 (.sym 25) (li 0) z.im.num.sign 0 h0,gtY 3 (.sym 26) (li 0) w.im.num.sign 0 h1] [] Qgo 1 3 func18 eo18 2000 [⟨Qba 0 24,28,none⟩] [lc 1,.c (.sl 0 0 3 3)] (.r (lc 350)))
   (fun h1=>Qcr (L:=Qll x z w) Qai Qap
     (Qma x z w b_x b_z b_w)
     [gtN 3 (.sym 24) (li 0) x.im.num.sign 0 (Kkv hx),gtY 3 (.sym 25) (li 0) z.im.num.sign 0 h0,gtN 3 (.sym 26) (li 0) w.im.num.sign 0 h1] [] Qgo 1 3 func18 eo18 2000 [⟨Qba 0 24,28,none⟩] [lc 1,.c (.sl 0 0 3 3)] (.r (lc 350))))
   (fun h0=>(Classical.em (w.im.num.sign>0)).elim (fun h1=>Qcr (L:=Qll x z w) Qai Qap
     (Qma x z w b_x b_z b_w)
     [gtN 3 (.sym 24) (li 0) x.im.num.sign 0 (Kkv hx),gtN 3 (.sym 25) (li 0) z.im.num.sign 0 h0,gtY 3 (.sym 26) (li 0) w.im.num.sign 0 h1] [] Qgo 1 3 func18 eo18 2000 [⟨Qba 0 24,28,none⟩] [lc 1,.c (.sl 0 0 3 3)] (.r (lc 350)))
   (fun h1=>Qcr (L:=Qll x z w) Qai Qap
     (Qma x z w b_x b_z b_w)
     [gtN 3 (.sym 24) (li 0) x.im.num.sign 0 (Kkv hx),gtN 3 (.sym 25) (li 0) z.im.num.sign 0 h0,gtN 3 (.sym 26) (li 0) w.im.num.sign 0 h1] [] Qgo 1 3 func18 eo18 2000 [⟨Qba 0 24,28,none⟩] [lc 1,.c (.sl 0 0 3 3)] (.r (lc 350))))
def Qsx(x z w:QC):List GF:=[(Qah x).cells,(Qah z).cells,(Qah w).cells,[gxi x.im.num.sign,gxi z.im.num.sign,gxi w.im.num.sign]].flatten
noncomputable def Qwn(x z w:QC)(b_x:Qac x)(b_z:Qac z)(b_w:Qac w):List (GC prog (Qsx x z w) true):=[gs (Qfi (Qah x) true (tI (Qcl b_x))) [yR 0 8] vTt,gs (Qco x.im) [yR 4 4] (rS 24),gs (Qfi (Qah z) true (tI (Qcl b_z))) [yR 8 8] vTt,gs (Qco z.im) [yR 12 4] (rS 25),gs (Qfi (Qah w) true (tI (Qcl b_w))) [yR 16 8] vTt,gs (Qco w.im) [yR 20 4] (rS 26)]
def Uge(x z w:QC)(b_x:Qac x)(b_z:Qac z)(b_w:Qac w)(hx:hN1 x)(hz:hO1 z):SMt 18 [((Qah x).cells++(Qah z).cells++(Qah w).cells,28)] [.f (gIi 1),.sl 0 0 3 3] (.r (gIi 350)) :=
  (Classical.em (w.im.num.sign > 0)).elim (fun h0 => Qcr (L := Qsx x z w) Qai Qap
     (Qwn x z w b_x b_z b_w)
     [gtY 3 (.sym 24) (li 0) x.im.num.sign 0 (Kkw hx),gtN 3 (.sym 25) (li 0) z.im.num.sign 0 (Kkv hz),gtY 3 (.sym 26) (li 0) w.im.num.sign 0 h0] [] Qgo 1 3 func18 eo18 2000 [⟨Qba 0 24,28,none⟩] [lc 1,.c (.sl 0 0 3 3)] (.r (lc 350)))
   (fun h0=>Qcr (L:=Qsx x z w) Qai Qap
     (Qwn x z w b_x b_z b_w)
     [gtY 3 (.sym 24) (li 0) x.im.num.sign 0 (Kkw hx),gtN 3 (.sym 25) (li 0) z.im.num.sign 0 (Kkv hz),gtN 3 (.sym 26) (li 0) w.im.num.sign 0 h0] [] Qgo 1 3 func18 eo18 2000 [⟨Qba 0 24,28,none⟩] [lc 1,.c (.sl 0 0 3 3)] (.r (lc 350)))
def Ugf(x z w:QC)(b_x:Qac x)(b_z:Qac z)(b_w:Qac w)(hx:hN1 x)(hz:hN1 z)(hw:hO1 w):SMt 18 [((Qah x).cells++(Qah z).cells++(Qah w).cells,28)] [.f (gIi 1),.sl 0 0 3 3] (.r (gIi 350)) :=
  Qcr (L := [(Qah x).cells,(Qah z).cells,(Qah w).cells,[gxi x.im.num.sign,gxi z.im.num.sign,gxi w.im.num.sign]].flatten) Qai Qap
     [gs (Qfi (Qah x) true (tI (Qcl b_x))) [yR 0 8] vTt,gs (Qco x.im) [yR 4 4] (rS 24),gs (Qfi (Qah z) true (tI (Qcl b_z))) [yR 8 8] vTt,gs (Qco z.im) [yR 12 4] (rS 25),gs (Qfi (Qah w) true (tI (Qcl b_w))) [yR 16 8] vTt,gs (Qco w.im) [yR 20 4] (rS 26)]
     [gtY 3 (.sym 24) (li 0) x.im.num.sign 0 (Kkw hx),gtY 3 (.sym 25) (li 0) z.im.num.sign 0 (Kkw hz),gtN 3 (.sym 26) (li 0) w.im.num.sign 0 (Kkv hw)] [] Qgo 1 3 func18 eo18 2000 [⟨Qba 0 24,28,none⟩] [lc 1,.c (.sl 0 0 3 3)] (.r (lc 350))
def Ugc(x z w:QC)(b_x:Qac x)(b_z:Qac z)(b_w:Qac w)(hx:hN1 x)(hz:hN1 z)(hw:hN1 w):SMt 18 [((Qah x).cells++(Qah z).cells++(Qah w).cells,28)] [.f (gIi 1),.sl 0 0 3 3] (.r (gIi 0)) :=
  Qcr (L := [(Qah x).cells,(Qah z).cells,(Qah w).cells,[gxi x.im.num.sign,gxi z.im.num.sign,gxi w.im.num.sign]].flatten) Qai Qap
     [gs (Qfi (Qah x) true (tI (Qcl b_x))) [yR 0 8] vTt,gs (Qco x.im) [yR 4 4] (rS 24),gs (Qfi (Qah z) true (tI (Qcl b_z))) [yR 8 8] vTt,gs (Qco z.im) [yR 12 4] (rS 25),gs (Qfi (Qah w) true (tI (Qcl b_w))) [yR 16 8] vTt,gs (Qco w.im) [yR 20 4] (rS 26)]
     [gtY 3 (.sym 24) (li 0) x.im.num.sign 0 (Kkw hx),gtY 3 (.sym 25) (li 0) z.im.num.sign 0 (Kkw hz),gtY 3 (.sym 26) (li 0) w.im.num.sign 0 (Kkw hw)] [] Qgo 1 3 func18 eo18 2000 [⟨Qba 0 24,28,none⟩] [lc 1,.c (.sl 0 0 3 3)] (.r (lc 0))
def Uoq:FnsOk prog [⟨71,Tryz.f71,2000⟩,⟨41,Tryz.f41,2000⟩,⟨103,Tryz.f103,2000⟩,⟨184,Tryz.f184,2000⟩,⟨185,Tryz.f185,2000⟩,⟨107,Tryz.f107,2000⟩,⟨85,Tryz.f85,2000⟩,⟨44,Tryz.f44,2000⟩]:=(Kiz (Kfq (Qmv (Qmw (Qmx (Qmp (Kfr (Knd .nil))))))))
def Ulx(z:QC)(b_z:Qac z)(hz:hN1 z):SCt 29 [gIi 1,.row ((Qah z).cells)] (.r gTt) :=
  Qbn (L := [(Qah z).cells,(Qah (⟨0,1⟩ : QC)).cells,(Qah (⟨0,0⟩ : QC)).cells,cn z,[gr z.re,gr z.im,gxi z.im.num.sign]].flatten) Qai Qap
     [gpi 0 1 8,gpi 0 0 16,gs (Qew z b_z) [yR 0 8] (.tup [sy [24,25],cTt]),gs (Qbs z ((Qaa b_z).mn)) [sy [24,25]] (.tup [cS 26,cS 27]),gs (Qau z.im) [cS 27] (rS 28)]
     [bLf 3 28 hz] [] Uoq 1 3 func29 eo29 2000 [lc 1,yR 0 8] vTt
def Unf(x z w:Qeb)(nk:¬(GOk x.val)):SMt 18 [(x.cells++z.cells++w.cells,28)] [.f (gIi 2),.sl 0 0 3 3] (.r (gIi 2)) :=
  Qcr (L := [x.cells,z.cells,w.cells].flatten) Qai Qap
     [gs (Qfi x false (fI nk)) [yR 0 8] vFf]
     [] [] Qgo 1 3 func18 eo18 2000 [⟨Qba 0 24,28,none⟩] [lc 2,.c (.sl 0 0 3 3)] (.r (lc 2))
def Qym(x:QC)(z w:Qeb):List GF:=[(Qah x).cells,z.cells,w.cells,cF (1:Rat),cF (nm x),cF ((1:Rat)-(nm x)),[gxi (((1:Rat)-(nm x)).num.sign)]].flatten
noncomputable def Kci(x:QC)(z w:Qeb)(b_x:Qac x)(nk:¬(GOk z.val)):List (GC prog (Qym x z w) true):=[gs (Qfi (Qah x) true (tI (Qcl b_x))) [yR 0 8] vTt,gs (Qkk 1 (by decide) (by decide)) [lc 1] (rQ 24),gs (Qky x ((Qaa b_x).mn)) [yR 0 8] (rQ 27),gs (Qby (1:Rat) (nm x) (ri 1) ((Qal (Qaa b_x)).mn)) [yQ 24,yQ 27] (rQ 30),gs (Qco ((1:Rat)-(nm x))) [yQ 30] (rS 33),gs (Qfi z false (fI nk)) [yR 8 8] vFf]
def Ung(x:QC)(z w:Qeb)(b_x:Qac x)(nk:¬(GOk z.val)):SMt 18 [((Qah x).cells++z.cells++w.cells,28)] [.f (gIi 2),.sl 0 0 3 3] (.r (gIi 2)) :=
  (Classical.em ((((1 : Rat)-(nm x)).num.sign) > 0)).elim (fun h0 => Qcr (L := Qym x z w) Qai Qap
     (Kci x z w b_x nk)
     [gtY 3 (.sym 33) (li 0) (((1:Rat)-(nm x)).num.sign) 0 h0] [] Qgo 1 3 func18 eo18 2000 [⟨Qba 0 24,28,none⟩] [lc 2,.c (.sl 0 0 3 3)] (.r (lc 2)))
   (fun h0=>Qcr (L:=Qym x z w) Qai Qap
     (Kci x z w b_x nk)
     [gtN 3 (.sym 33) (li 0) (((1:Rat)-(nm x)).num.sign) 0 h0] [] Qgo 1 3 func18 eo18 2000 [⟨Qba 0 24,28,none⟩] [lc 2,.c (.sl 0 0 3 3)] (.r (lc 2)))
def Qof(x z:QC)(w:Qeb):List GF:=[(Qah x).cells,(Qah z).cells,w.cells,cF (1:Rat),cF (nm x),cF ((1:Rat)-(nm x)),[gxi (((1:Rat)-(nm x)).num.sign)],cF (nm z),cF ((1:Rat)-(nm z)),[gxi (((1:Rat)-(nm z)).num.sign)]].flatten
noncomputable def Qog(x z:QC)(w:Qeb)(b_x:Qac x)(b_z:Qac z)(nk:¬(GOk w.val)):List (GC prog (Qof x z w) true):=[gs (Qfi (Qah x) true (tI (Qcl b_x))) [yR 0 8] vTt,gs (Qkk 1 (by decide) (by decide)) [lc 1] (rQ 24),gs (Qky x ((Qaa b_x).mn)) [yR 0 8] (rQ 27),gs (Qby (1:Rat) (nm x) (ri 1) ((Qal (Qaa b_x)).mn)) [yQ 24,yQ 27] (rQ 30),gs (Qco ((1:Rat)-(nm x))) [yQ 30] (rS 33),gs (Qfi (Qah z) true (tI (Qcl b_z))) [yR 8 8] vTt,gs (Qky z ((Qaa b_z).mn)) [yR 8 8] (rQ 34),gs (Qby (1:Rat) (nm z) (ri 1) ((Qal (Qaa b_z)).mn)) [yQ 24,yQ 34] (rQ 37),gs (Qco ((1:Rat)-(nm z))) [yQ 37] (rS 40),gs (Qfi w false (fI nk)) [yR 16 8] vFf]
def Unh(x z:QC)(w:Qeb)(b_x:Qac x)(b_z:Qac z)(nk:¬(GOk w.val)):SMt 18 [((Qah x).cells++(Qah z).cells++w.cells,28)] [.f (gIi 2),.sl 0 0 3 3] (.r (gIi 2)) :=
  (Classical.em ((((1 : Rat)-(nm x)).num.sign) > 0)).elim (fun h0 => (Classical.em ((((1 : Rat)-(nm z)).num.sign) > 0)).elim (fun h1 => Qcr (L := Qof x z w) Qai Qap
     (Qog x z w b_x b_z nk)
     [gtY 3 (.sym 33) (li 0) (((1:Rat)-(nm x)).num.sign) 0 h0,gtY 3 (.sym 40) (li 0) (((1:Rat)-(nm z)).num.sign) 0 h1] [] Qgo 1 3 func18 eo18 2000 [⟨Qba 0 24,28,none⟩] [lc 2,.c (.sl 0 0 3 3)] (.r (lc 2)))
   (fun h1=>Qcr (L:=Qof x z w) Qai Qap
     (Qog x z w b_x b_z nk)
     [gtY 3 (.sym 33) (li 0) (((1:Rat)-(nm x)).num.sign) 0 h0,gtN 3 (.sym 40) (li 0) (((1:Rat)-(nm z)).num.sign) 0 h1] [] Qgo 1 3 func18 eo18 2000 [⟨Qba 0 24,28,none⟩] [lc 2,.c (.sl 0 0 3 3)] (.r (lc 2))))
   (fun h0=>(Classical.em ((((1:Rat)-(nm z)).num.sign)>0)).elim (fun h1=>Qcr (L:=Qof x z w) Qai Qap
     (Qog x z w b_x b_z nk)
     [gtN 3 (.sym 33) (li 0) (((1:Rat)-(nm x)).num.sign) 0 h0,gtY 3 (.sym 40) (li 0) (((1:Rat)-(nm z)).num.sign) 0 h1] [] Qgo 1 3 func18 eo18 2000 [⟨Qba 0 24,28,none⟩] [lc 2,.c (.sl 0 0 3 3)] (.r (lc 2)))
   (fun h1=>Qcr (L:=Qof x z w) Qai Qap
     (Qog x z w b_x b_z nk)
     [gtN 3 (.sym 33) (li 0) (((1:Rat)-(nm x)).num.sign) 0 h0,gtN 3 (.sym 40) (li 0) (((1:Rat)-(nm z)).num.sign) 0 h1] [] Qgo 1 3 func18 eo18 2000 [⟨Qba 0 24,28,none⟩] [lc 2,.c (.sl 0 0 3 3)] (.r (lc 2))))
def Qlm(x z w:QC):List GF:=[(Qah x).cells,(Qah z).cells,(Qah w).cells,cF (1:Rat),cF (nm x),cF ((1:Rat)-(nm x)),[gxi (((1:Rat)-(nm x)).num.sign)],cF (nm z),cF ((1:Rat)-(nm z)),[gxi (((1:Rat)-(nm z)).num.sign)],cF (nm w),cF ((1:Rat)-(nm w)),[gxi (((1:Rat)-(nm w)).num.sign)]].flatten
noncomputable def Qmb(x z w:QC)(b_x:Qac x)(b_z:Qac z)(b_w:Qac w):List (GC prog (Qlm x z w) true):=[gs (Qfi (Qah x) true (tI (Qcl b_x))) [yR 0 8] vTt,gs (Qkk 1 (by decide) (by decide)) [lc 1] (rQ 24),gs (Qky x ((Qaa b_x).mn)) [yR 0 8] (rQ 27),gs (Qby (1:Rat) (nm x) (ri 1) ((Qal (Qaa b_x)).mn)) [yQ 24,yQ 27] (rQ 30),gs (Qco ((1:Rat)-(nm x))) [yQ 30] (rS 33),gs (Qfi (Qah z) true (tI (Qcl b_z))) [yR 8 8] vTt,gs (Qky z ((Qaa b_z).mn)) [yR 8 8] (rQ 34),gs (Qby (1:Rat) (nm z) (ri 1) ((Qal (Qaa b_z)).mn)) [yQ 24,yQ 34] (rQ 37),gs (Qco ((1:Rat)-(nm z))) [yQ 37] (rS 40),gs (Qfi (Qah w) true (tI (Qcl b_w))) [yR 16 8] vTt,gs (Qky w ((Qaa b_w).mn)) [yR 16 8] (rQ 41),gs (Qby (1:Rat) (nm w) (ri 1) ((Qal (Qaa b_w)).mn)) [yQ 24,yQ 41] (rQ 44),gs (Qco ((1:Rat)-(nm w))) [yQ 44] (rS 47)]
def Ugh(x z w:QC)(b_x:Qac x)(b_z:Qac z)(b_w:Qac w)(hx:hO2 x):SMt 18 [((Qah x).cells++(Qah z).cells++(Qah w).cells,28)] [.f (gIi 2),.sl 0 0 3 3] (.r (gIi 350)) :=
  (Classical.em ((((1 : Rat)-(nm z)).num.sign) > 0)).elim (fun h0 => (Classical.em ((((1 : Rat)-(nm w)).num.sign) > 0)).elim (fun h1 => Qcr (L := Qlm x z w) Qai Qap
     (Qmb x z w b_x b_z b_w)
     [gtN 3 (.sym 33) (li 0) (((1:Rat)-(nm x)).num.sign) 0 (Kkv hx),gtY 3 (.sym 40) (li 0) (((1:Rat)-(nm z)).num.sign) 0 h0,gtY 3 (.sym 47) (li 0) (((1:Rat)-(nm w)).num.sign) 0 h1] [] Qgo 1 3 func18 eo18 2000 [⟨Qba 0 24,28,none⟩] [lc 2,.c (.sl 0 0 3 3)] (.r (lc 350)))
   (fun h1=>Qcr (L:=Qlm x z w) Qai Qap
     (Qmb x z w b_x b_z b_w)
     [gtN 3 (.sym 33) (li 0) (((1:Rat)-(nm x)).num.sign) 0 (Kkv hx),gtY 3 (.sym 40) (li 0) (((1:Rat)-(nm z)).num.sign) 0 h0,gtN 3 (.sym 47) (li 0) (((1:Rat)-(nm w)).num.sign) 0 h1] [] Qgo 1 3 func18 eo18 2000 [⟨Qba 0 24,28,none⟩] [lc 2,.c (.sl 0 0 3 3)] (.r (lc 350))))
   (fun h0=>(Classical.em ((((1:Rat)-(nm w)).num.sign)>0)).elim (fun h1=>Qcr (L:=Qlm x z w) Qai Qap
     (Qmb x z w b_x b_z b_w)
     [gtN 3 (.sym 33) (li 0) (((1:Rat)-(nm x)).num.sign) 0 (Kkv hx),gtN 3 (.sym 40) (li 0) (((1:Rat)-(nm z)).num.sign) 0 h0,gtY 3 (.sym 47) (li 0) (((1:Rat)-(nm w)).num.sign) 0 h1] [] Qgo 1 3 func18 eo18 2000 [⟨Qba 0 24,28,none⟩] [lc 2,.c (.sl 0 0 3 3)] (.r (lc 350)))
   (fun h1=>Qcr (L:=Qlm x z w) Qai Qap
     (Qmb x z w b_x b_z b_w)
     [gtN 3 (.sym 33) (li 0) (((1:Rat)-(nm x)).num.sign) 0 (Kkv hx),gtN 3 (.sym 40) (li 0) (((1:Rat)-(nm z)).num.sign) 0 h0,gtN 3 (.sym 47) (li 0) (((1:Rat)-(nm w)).num.sign) 0 h1] [] Qgo 1 3 func18 eo18 2000 [⟨Qba 0 24,28,none⟩] [lc 2,.c (.sl 0 0 3 3)] (.r (lc 350))))
def Qsy(x z w:QC):List GF:=[(Qah x).cells,(Qah z).cells,(Qah w).cells,cF (1:Rat),cF (nm x),cF ((1:Rat)-(nm x)),[gxi (((1:Rat)-(nm x)).num.sign)],cF (nm z),cF ((1:Rat)-(nm z)),[gxi (((1:Rat)-(nm z)).num.sign)],cF (nm w),cF ((1:Rat)-(nm w)),[gxi (((1:Rat)-(nm w)).num.sign)]].flatten
noncomputable def Qwo(x z w:QC)(b_x:Qac x)(b_z:Qac z)(b_w:Qac w):List (GC prog (Qsy x z w) true):=[gs (Qfi (Qah x) true (tI (Qcl b_x))) [yR 0 8] vTt,gs (Qkk 1 (by decide) (by decide)) [lc 1] (rQ 24),gs (Qky x ((Qaa b_x).mn)) [yR 0 8] (rQ 27),gs (Qby (1:Rat) (nm x) (ri 1) ((Qal (Qaa b_x)).mn)) [yQ 24,yQ 27] (rQ 30),gs (Qco ((1:Rat)-(nm x))) [yQ 30] (rS 33),gs (Qfi (Qah z) true (tI (Qcl b_z))) [yR 8 8] vTt,gs (Qky z ((Qaa b_z).mn)) [yR 8 8] (rQ 34),gs (Qby (1:Rat) (nm z) (ri 1) ((Qal (Qaa b_z)).mn)) [yQ 24,yQ 34] (rQ 37),gs (Qco ((1:Rat)-(nm z))) [yQ 37] (rS 40),gs (Qfi (Qah w) true (tI (Qcl b_w))) [yR 16 8] vTt,gs (Qky w ((Qaa b_w).mn)) [yR 16 8] (rQ 41),gs (Qby (1:Rat) (nm w) (ri 1) ((Qal (Qaa b_w)).mn)) [yQ 24,yQ 41] (rQ 44),gs (Qco ((1:Rat)-(nm w))) [yQ 44] (rS 47)]
def Ugi(x z w:QC)(b_x:Qac x)(b_z:Qac z)(b_w:Qac w)(hx:hN2 x)(hz:hO2 z):SMt 18 [((Qah x).cells++(Qah z).cells++(Qah w).cells,28)] [.f (gIi 2),.sl 0 0 3 3] (.r (gIi 350)) :=
  (Classical.em ((((1 : Rat)-(nm w)).num.sign) > 0)).elim (fun h0 => Qcr (L := Qsy x z w) Qai Qap
     (Qwo x z w b_x b_z b_w)
     [gtY 3 (.sym 33) (li 0) (((1:Rat)-(nm x)).num.sign) 0 (Kkw hx),gtN 3 (.sym 40) (li 0) (((1:Rat)-(nm z)).num.sign) 0 (Kkv hz),gtY 3 (.sym 47) (li 0) (((1:Rat)-(nm w)).num.sign) 0 h0] [] Qgo 1 3 func18 eo18 2000 [⟨Qba 0 24,28,none⟩] [lc 2,.c (.sl 0 0 3 3)] (.r (lc 350)))
   (fun h0=>Qcr (L:=Qsy x z w) Qai Qap
     (Qwo x z w b_x b_z b_w)
     [gtY 3 (.sym 33) (li 0) (((1:Rat)-(nm x)).num.sign) 0 (Kkw hx),gtN 3 (.sym 40) (li 0) (((1:Rat)-(nm z)).num.sign) 0 (Kkv hz),gtN 3 (.sym 47) (li 0) (((1:Rat)-(nm w)).num.sign) 0 h0] [] Qgo 1 3 func18 eo18 2000 [⟨Qba 0 24,28,none⟩] [lc 2,.c (.sl 0 0 3 3)] (.r (lc 350)))
def Ugj(x z w:QC)(b_x:Qac x)(b_z:Qac z)(b_w:Qac w)(hx:hN2 x)(hz:hN2 z)(hw:hO2 w):SMt 18 [((Qah x).cells++(Qah z).cells++(Qah w).cells,28)] [.f (gIi 2),.sl 0 0 3 3] (.r (gIi 350)) :=
  Qcr (L := [(Qah x).cells,(Qah z).cells,(Qah w).cells,cF (1 : Rat),cF (nm x),cF ((1 : Rat)-(nm x)),[gxi (((1 : Rat)-(nm x)).num.sign)],cF (nm z),cF ((1 : Rat)-(nm z)),[gxi (((1 : Rat)-(nm z)).num.sign)],cF (nm w),cF ((1 : Rat)-(nm w)),[gxi (((1 : Rat)-(nm w)).num.sign)]].flatten) Qai Qap
     [gs (Qfi (Qah x) true (tI (Qcl b_x))) [yR 0 8] vTt,gs (Qkk 1 (by decide) (by decide)) [lc 1] (rQ 24),gs (Qky x ((Qaa b_x).mn)) [yR 0 8] (rQ 27),gs (Qby (1:Rat) (nm x) (ri 1) ((Qal (Qaa b_x)).mn)) [yQ 24,yQ 27] (rQ 30),gs (Qco ((1:Rat)-(nm x))) [yQ 30] (rS 33),gs (Qfi (Qah z) true (tI (Qcl b_z))) [yR 8 8] vTt,gs (Qky z ((Qaa b_z).mn)) [yR 8 8] (rQ 34),gs (Qby (1:Rat) (nm z) (ri 1) ((Qal (Qaa b_z)).mn)) [yQ 24,yQ 34] (rQ 37),gs (Qco ((1:Rat)-(nm z))) [yQ 37] (rS 40),gs (Qfi (Qah w) true (tI (Qcl b_w))) [yR 16 8] vTt,gs (Qky w ((Qaa b_w).mn)) [yR 16 8] (rQ 41),gs (Qby (1:Rat) (nm w) (ri 1) ((Qal (Qaa b_w)).mn)) [yQ 24,yQ 41] (rQ 44),gs (Qco ((1:Rat)-(nm w))) [yQ 44] (rS 47)]
     [gtY 3 (.sym 33) (li 0) (((1:Rat)-(nm x)).num.sign) 0 (Kkw hx),gtY 3 (.sym 40) (li 0) (((1:Rat)-(nm z)).num.sign) 0 (Kkw hz),gtN 3 (.sym 47) (li 0) (((1:Rat)-(nm w)).num.sign) 0 (Kkv hw)] [] Qgo 1 3 func18 eo18 2000 [⟨Qba 0 24,28,none⟩] [lc 2,.c (.sl 0 0 3 3)] (.r (lc 350))
def Ugg(x z w:QC)(b_x:Qac x)(b_z:Qac z)(b_w:Qac w)(hx:hN2 x)(hz:hN2 z)(hw:hN2 w):SMt 18 [((Qah x).cells++(Qah z).cells++(Qah w).cells,28)] [.f (gIi 2),.sl 0 0 3 3] (.r (gIi 0)) :=
  Qcr (L := [(Qah x).cells,(Qah z).cells,(Qah w).cells,cF (1 : Rat),cF (nm x),cF ((1 : Rat)-(nm x)),[gxi (((1 : Rat)-(nm x)).num.sign)],cF (nm z),cF ((1 : Rat)-(nm z)),[gxi (((1 : Rat)-(nm z)).num.sign)],cF (nm w),cF ((1 : Rat)-(nm w)),[gxi (((1 : Rat)-(nm w)).num.sign)]].flatten) Qai Qap
     [gs (Qfi (Qah x) true (tI (Qcl b_x))) [yR 0 8] vTt,gs (Qkk 1 (by decide) (by decide)) [lc 1] (rQ 24),gs (Qky x ((Qaa b_x).mn)) [yR 0 8] (rQ 27),gs (Qby (1:Rat) (nm x) (ri 1) ((Qal (Qaa b_x)).mn)) [yQ 24,yQ 27] (rQ 30),gs (Qco ((1:Rat)-(nm x))) [yQ 30] (rS 33),gs (Qfi (Qah z) true (tI (Qcl b_z))) [yR 8 8] vTt,gs (Qky z ((Qaa b_z).mn)) [yR 8 8] (rQ 34),gs (Qby (1:Rat) (nm z) (ri 1) ((Qal (Qaa b_z)).mn)) [yQ 24,yQ 34] (rQ 37),gs (Qco ((1:Rat)-(nm z))) [yQ 37] (rS 40),gs (Qfi (Qah w) true (tI (Qcl b_w))) [yR 16 8] vTt,gs (Qky w ((Qaa b_w).mn)) [yR 16 8] (rQ 41),gs (Qby (1:Rat) (nm w) (ri 1) ((Qal (Qaa b_w)).mn)) [yQ 24,yQ 41] (rQ 44),gs (Qco ((1:Rat)-(nm w))) [yQ 44] (rS 47)]
     [gtY 3 (.sym 33) (li 0) (((1:Rat)-(nm x)).num.sign) 0 (Kkw hx),gtY 3 (.sym 40) (li 0) (((1:Rat)-(nm z)).num.sign) 0 (Kkw hz),gtY 3 (.sym 47) (li 0) (((1:Rat)-(nm w)).num.sign) 0 (Kkw hw)] [] Qgo 1 3 func18 eo18 2000 [⟨Qba 0 24,28,none⟩] [lc 2,.c (.sl 0 0 3 3)] (.r (lc 0))
def Uly(z:QC)(b_z:Qac z)(hz:hN2 z):SCt 29 [gIi 2,.row ((Qah z).cells)] (.r gTt) :=
  Qbn (L := [(Qah z).cells,(Qah (⟨0,1⟩ : QC)).cells,(Qah (⟨0,0⟩ : QC)).cells,cn z,[gr (1 : Rat),gr (nm z),gr ((1 : Rat)-(nm z)),gxi (((1 : Rat)-(nm z)).num.sign)]].flatten) Qai Qap
     [gpi 0 1 8,gpi 0 0 16,gs (Qew z b_z) [yR 0 8] (.tup [sy [24,25],cTt]),gs (pnr 1) [lc 1,lc 1] (rS 26),gs (Qbw z ((Qaa b_z).mn)) [sy [24,25]] (rS 27),gs (Qaz (1:Rat) _ (ri 1) ((Qal (Qaa b_z)).mn)) [cS 26,cS 27] (rS 28),gs (Qau ((1:Rat)-(nm z))) [cS 28] (rS 29)]
     [bLf 3 29 hz] [] Uoq 1 3 func29 eo29 2000 [lc 2,yR 0 8] vTt
def Uvs:FnsOk prog [⟨238,Tryz.f238,2000⟩,⟨239,Tryz.f239,2000⟩,⟨256,Tryz.f256,2000⟩]:=(Usu (Usv (Usw .nil)))
def Uhj(x z w:QC)(b_x:Qac x)(b_z:Qac z)(b_w:Qac w) :SMt 207 [([gl (.bool false)]++(Qah x).cells++[gl (.bool false)]++(Qah z).cells++[gl (.bool false)]++(Qah w).cells,59)] [.sl 0 0 3 3] (.r (gIi 0)) :=
  Qcr (L := [(Qah x).cells,(Qah z).cells,(Qah w).cells].flatten) Qai Qap
     [gs (Ugu (Qtm (some x)) (Qtt b_x) true (tI (Qzn b_x))) [.row (flA [[.lit (.bool false)],Qba 0 8])] vTt,gs (Ugu (Qtm (some z)) (Qtt b_z) true (tI (Qzn b_z))) [.row (flA [[.lit (.bool false)],Qba 8 8])] vTt,gs (Ugu (Qtm (some w)) (Qtt b_w) true (tI (Qzn b_w))) [.row (flA [[.lit (.bool false)],Qba 16 8])] vTt]
     [] [] Uvs 1 4 func207 eo207 2000 [⟨flA [[.lit (.bool false)],Qba 0 8,[.lit (.bool false)],Qba 8 8,[.lit (.bool false)],Qba 16 8],59,none⟩] [.c (.sl 0 0 3 3)] (.r (lc 0))
end Go.Proofs.YtcjjdooeogmdbaaGreat
namespace Go.Proofs.YtcjjdooeogmdbaaGreat
open Go.RowKit Tr Proofs.Tryz
def Koh(w:World)(i n1 n2 n3 n4 j m1 m2 m3 m4:Bool)(s1 s2 s3 s4 t1 t2 t3 t4:ByteArray)(r:Bool)(hr:r=true↔Value.agg #[.bool i,.bool n1,.string s1,.bool n2,.string s2,.bool n3,.string s3,.bool n4,.string s4]=.agg #[.bool j,.bool m1,.string t1,.bool m2,.string t2,.bool m3,.string t3,.bool m4,.string t4]) :
  (binOp .eql 59 (.agg #[.bool i,.bool n1,.string s1,.bool n2,.string s2,.bool n3,.string s3,.bool n4,.string s4]) (.agg #[.bool j,.bool m1,.string t1,.bool m2,.string t2,.bool m3,.string t3,.bool m4,.string t4])).run prog w=.ok (.bool r) w:=by
 simp only[Value.agg.injEq,Array.mk.injEq,List.cons.injEq,Value.bool.injEq,Value.string.injEq,and_true] at hr
 go_simp
 simp only[Qng];cases r
 .have hn:¬(i=j/\n1=m1/\s1=t1/\n2=m2/\s2=t2/\n3=m3/\s3=t3/\n4=m4/\s4=t4):=fun h=>by cases hr.2 h
  repeat' split
  all_goals first
   | rfl
   | (exfalso;apply hn;refine⟨?_,?_,?_,?_,?_,?_,?_,?_,?_⟩<;>assumption)
 .obtain⟨rfl,rfl,rfl,rfl,rfl,rfl,rfl,rfl,rfl⟩:=hr.1 rfl;simp
