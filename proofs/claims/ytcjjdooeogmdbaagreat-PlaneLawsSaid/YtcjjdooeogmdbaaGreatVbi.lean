/- Laws. -/
import Derived.Test.YtcjjdooeogmdbaaGreatVbh
set_option linter.all false
set_option maxHeartbeats 4000000
set_option maxRecDepth 100000
namespace Go.Proofs.YtcjjdooeogmdbaaGreat
open Go.RowKit Tr Proofs.Tryz
open Classical
def Urf{x:Rat}(h:0<x):0<x+x:=by grind
def Qdy(z w:QC):Rat:=1+nm (z-w)/(z.im*w.im+z.im*w.im)
def Qdo(z w:QC):Rat:=1+(nm (z-w)+nm (z-w))/((1-nm z)*(1-nm w))
def Udz(z w:QC):Rat:=((nm (z-w))/(z.im*w.im))*(2:Rat)
def Kgv(z w:QC)(b_z:Qac z)(b_w:Qac w)(hz:hN1 z)(hw:hN1 w):RL (Udz z w) 20490:=(Qab ((nm (z-w))/(z.im*w.im)) (2:Rat) (Qbb (pne (Qdv (Qdf hz) (Qdf hw))) (Qal (Qbi (Qaa b_z) (Qaa b_w))) (Qab z.im w.im (Qag z (Qaa b_z)) (Qag w (Qaa b_w)))) (ri 2)).mn
def Uhs(z w:QC):Rat:=(1:Rat)+((Udz z w)/(4:Rat))
def Uht(z w:QC)(b_z:Qac z)(b_w:Qac w)(hz:hN1 z)(hw:hN1 w):RL (Uhs z w) 40985:=(Qaw (1:Rat) ((Udz z w)/(4:Rat)) (ri 1) (Qbb (by decide +kernel) (Kgv z w b_z b_w hz hw) (rj 4))).mn
def Uux(z w:QC)(b_z:Qac z)(b_w:Qac w)(hz:hN1 z)(hw:hN1 w)(hS:Qar (Uhs z w)):SCt 31 [gIi 1,.row ((Qah z).cells),.row ((Qah w).cells)] (.tup [.row (rF (Uhs z w)),gIi 0]) :=
  have t1:=Qqb 0 1;have t2:=Qqb 0 0;have t3:=Qbs z ((Qaa b_z).mn);have t4:=Qbs w ((Qaa b_w).mn);have t5:=Qeo z w (Qaa b_z) (Qaa b_w) (by decide);have t6:=Qbw (z-w) ((Qbi (Qaa b_z) (Qaa b_w)).mn);have t7:=Qan z.im w.im ((Qag z (Qaa b_z)).mn) ((Qag w (Qaa b_w)).mn);have t8:=Qbe (nm (z-w)) (z.im*w.im) ((Qal (Qbi (Qaa b_z) (Qaa b_w))).mn) ((Qab z.im w.im (Qag z (Qaa b_z)) (Qag w (Qaa b_w))).mn) (pne (Qdv (Qdf hz) (Qdf hw)));have t9:=pnr 1;have t10:=pnr 2;have t11:=Qan ((nm (z-w))/(z.im*w.im)) (2:Rat) ((Qbb (pne (Qdv (Qdf hz) (Qdf hw))) (Qal (Qbi (Qaa b_z) (Qaa b_w))) (Qab z.im w.im (Qag z (Qaa b_z)) (Qag w (Qaa b_w)))).mn) (ri 2);have t12:=pnr 4;have t13:=Qbe (Udz z w) (4:Rat) ((Kgv z w b_z b_w hz hw).mn) (ri 4) (by decide +kernel);have t14:=Qfz (1:Rat) ((Udz z w)/(4:Rat)) (ri 1) ((Qbb (by decide +kernel) (Kgv z w b_z b_w hz hw) (rj 4)).mn)
  Qbn (L := [(Qah z).cells,(Qah w).cells,(Qah (⟨0,1⟩ : QC)).cells,(Qah (⟨0,0⟩ : QC)).cells,cn z,[gr z.re,gr z.im,gxi z.im.num.sign],cn w,[gr w.re,gr w.im,gxi w.im.num.sign],cn (z-w),[gr (nm (z-w)),gr (z.im * w.im),gr ((nm (z-w))/(z.im * w.im)),gr (1 : Rat),gr (2 : Rat),gr (Udz z w),gr (4 : Rat),gr ((Udz z w)/(4 : Rat)),gr (Uhs z w)],cF (Uhs z w)].flatten) Qai Qap
     [gs (t1) [lc 0,lc 1] (.r (yR 16 8)),gs (t2) [lc 0,lc 0] (.r (yR 24 8)),gs (Qew z b_z) [yR 0 8] (.tup [sy [32,33],cTt]),gs (t3) [sy [32,33]] (.tup [cS 34,cS 35]),gs (Qau z.im) [cS 35] (rS 36),gs (Qew w b_w) [yR 8 8] (.tup [sy [37,38],cTt]),gs (t4) [sy [37,38]] (.tup [cS 39,cS 40]),gs (Qau w.im) [cS 40] (rS 41),gs (t5) [sy [32,33],sy [37,38]] (.r (sy [42,43])),gs (t6) [sy [42,43]] (rS 44),gs (t7) [cS 35,cS 40] (rS 45),gs (t8) [cS 44,cS 45] (rS 46),gs (t9) [lc 1,lc 1] (rS 47),gs (t10) [lc 2,lc 1] (rS 48),gs (t11) [cS 46,cS 48] (rS 49),gs (t12) [lc 4,lc 1] (rS 50),gs (t13) [cS 49,cS 50] (rS 51),gs (t14) [cS 47,cS 51] (rS 52),gs (Qhr _ ((Uht z w b_z b_w hz hw).mn) hS) [cS 52] (.tup [yQ 53,lc 0])]
     [bLf 3 36 hz,bLf 3 41 hw] [] ((Kiz (Kfq (Qmv (Qmw (Qmx (Qmp (Kfr (Knd .nil)))))))):FnsOk prog _) 1 3 func31 eo31 2000 [lc 1,yR 0 8,yR 8 8] (.tup [yQ 53,lc 0])
def Kjp(z w:QC)(hz:hN1 z)(hw:hN1 w):Uhs z w=Qdy z w:=by
 have h_:=pne (Qdv (Qdf hz) (Qdf hw));simp only[Uhs,Udz,Qdy]<;>grind
def Ude(z w:QC)(b_z:Qac z)(b_w:Qac w)(hz:hN1 z)(hw:hN1 w)(hS:Qar (Qdy z w)):SCt 31 [gIi 1,.row ((Qah z).cells),.row ((Qah w).cells)] (.tup [.row (rF (Qdy z w)),gIi 0]):=by
 have k_:=Uux z w b_z b_w hz hw (by simp only[Kjp z w hz hw];exact hS);simp only[Kjp z w hz hw] at k_;exact k_
def Uea(z w:QC):Rat:=((1:Rat)-(nm z))*((1:Rat)-(nm w))
def Kgw(z w:QC)(b_z:Qac z)(b_w:Qac w):RL (Uea z w) 16390:=(Qab ((1:Rat)-(nm z)) ((1:Rat)-(nm w)) (Qae (1:Rat) (nm z) (ri 1) (Qal (Qaa b_z))) (Qae (1:Rat) (nm w) (ri 1) (Qal (Qaa b_w)))).mn
def Ueb(z w:QC):Rat:=((nm (z-w))/(Uea z w))*(2:Rat)
def Kgx(z w:QC)(b_z:Qac z)(b_w:Qac w)(hz:hN2 z)(hw:hN2 w):RL (Ueb z w) 49174:=(Qab ((nm (z-w))/(Uea z w)) (2:Rat) (Qbb (pne (Qdv (Qdf hz) (Qdf hw))) (Qal (Qbi (Qaa b_z) (Qaa b_w))) (Kgw z w b_z b_w)) (ri 2)).mn
def Uhu(z w:QC):Rat:=(1:Rat)+((Ueb z w)/(1:Rat))
def Uhv(z w:QC)(b_z:Qac z)(b_w:Qac w)(hz:hN2 z)(hw:hN2 w):RL (Uhu z w) 98353:=(Qaw (1:Rat) ((Ueb z w)/(1:Rat)) (ri 1) (Qbb (by decide +kernel) (Kgx z w b_z b_w hz hw) (rj 1))).mn
def Uuy(z w:QC)(b_z:Qac z)(b_w:Qac w)(hz:hN2 z)(hw:hN2 w)(hS:Qar (Uhu z w)):SCt 31 [gIi 2,.row ((Qah z).cells),.row ((Qah w).cells)] (.tup [.row (rF (Uhu z w)),gIi 0]) :=
  have t1:=Qqb 0 1;have t2:=Qqb 0 0;have t3:=pnr 1;have t4:=Qbw z ((Qaa b_z).mn);have t5:=Qaz (1:Rat) (nm z) (ri 1) ((Qal (Qaa b_z)).mn);have t6:=Qau ((1:Rat)-(nm z));have t7:=Qbw w ((Qaa b_w).mn);have t8:=Qaz (1:Rat) (nm w) (ri 1) ((Qal (Qaa b_w)).mn);have t9:=Qau ((1:Rat)-(nm w));have t10:=Qeo z w (Qaa b_z) (Qaa b_w) (by decide);have t11:=Qbw (z-w) ((Qbi (Qaa b_z) (Qaa b_w)).mn);have t12:=Qan ((1:Rat)-(nm z)) ((1:Rat)-(nm w)) ((Qae (1:Rat) (nm z) (ri 1) (Qal (Qaa b_z))).mn) ((Qae (1:Rat) (nm w) (ri 1) (Qal (Qaa b_w))).mn);have t13:=Qbe (nm (z-w)) (Uea z w) ((Qal (Qbi (Qaa b_z) (Qaa b_w))).mn) ((Kgw z w b_z b_w).mn) (pne (Qdv (Qdf hz) (Qdf hw)));have t14:=pnr 2;have t15:=Qan ((nm (z-w))/(Uea z w)) (2:Rat) ((Qbb (pne (Qdv (Qdf hz) (Qdf hw))) (Qal (Qbi (Qaa b_z) (Qaa b_w))) (Kgw z w b_z b_w)).mn) (ri 2);have t16:=Qbe (Ueb z w) (1:Rat) ((Kgx z w b_z b_w hz hw).mn) (ri 1) (by decide +kernel);have t17:=Qfz (1:Rat) ((Ueb z w)/(1:Rat)) (ri 1) ((Qbb (by decide +kernel) (Kgx z w b_z b_w hz hw) (rj 1)).mn)
  Qbn (L := [(Qah z).cells,(Qah w).cells,(Qah (⟨0,1⟩ : QC)).cells,(Qah (⟨0,0⟩ : QC)).cells,cn z,[gr (1 : Rat),gr (nm z),gr ((1 : Rat)-(nm z)),gxi (((1 : Rat)-(nm z)).num.sign)],cn w,[gr (nm w),gr ((1 : Rat)-(nm w)),gxi (((1 : Rat)-(nm w)).num.sign)],cn (z-w),[gr (nm (z-w)),gr (Uea z w),gr ((nm (z-w))/(Uea z w)),gr (2 : Rat),gr (Ueb z w),gr ((Ueb z w)/(1 : Rat)),gr (Uhu z w)],cF (Uhu z w)].flatten) Qai Qap
     [gs (t1) [lc 0,lc 1] (.r (yR 16 8)),gs (t2) [lc 0,lc 0] (.r (yR 24 8)),gs (Qew z b_z) [yR 0 8] (.tup [sy [32,33],cTt]),gs (t3) [lc 1,lc 1] (rS 34),gs (t4) [sy [32,33]] (rS 35),gs (t5) [cS 34,cS 35] (rS 36),gs (t6) [cS 36] (rS 37),gs (Qew w b_w) [yR 8 8] (.tup [sy [38,39],cTt]),gs (t7) [sy [38,39]] (rS 40),gs (t8) [cS 34,cS 40] (rS 41),gs (t9) [cS 41] (rS 42),gs (t10) [sy [32,33],sy [38,39]] (.r (sy [43,44])),gs (t11) [sy [43,44]] (rS 45),gs (t12) [cS 36,cS 41] (rS 46),gs (t13) [cS 45,cS 46] (rS 47),gs (t14) [lc 2,lc 1] (rS 48),gs (t15) [cS 47,cS 48] (rS 49),gs (t16) [cS 49,cS 34] (rS 50),gs (t17) [cS 34,cS 50] (rS 51),gs (Qhr _ ((Uhv z w b_z b_w hz hw).mn) hS) [cS 51] (.tup [yQ 52,lc 0])]
     [bLf 3 37 hz,bLf 3 42 hw] [] ((Kiz (Kfq (Qmv (Qmw (Qmx (Qmp (Kfr (Knd .nil)))))))):FnsOk prog _) 1 3 func31 eo31 2000 [lc 2,yR 0 8,yR 8 8] (.tup [yQ 52,lc 0])
def Kjq(z w:QC)(hz:hN2 z)(hw:hN2 w):Uhu z w=Qdo z w:=by
 have h_:=pne (Qdv (Qdf hz) (Qdf hw));simp only[Uhu,Ueb,Uea,Qdo]<;>grind
def Unm(z w:QC)(b_z:Qac z)(b_w:Qac w)(hz:hN2 z)(hw:hN2 w)(hS:Qar (Qdo z w)):SCt 31 [gIi 2,.row ((Qah z).cells),.row ((Qah w).cells)] (.tup [.row (rF (Qdo z w)),gIi 0]):=by
 have k_:=Uuy z w b_z b_w hz hw (by simp only[Kjq z w hz hw];exact hS);simp only[Kjq z w hz hw] at k_;exact k_
def rsq(x:Rat):0<=x*x:=by
 by_cases h:0<=x
 .exact Rat.mul_nonneg h h
 .have h1:0≤-x:=by grind
  have h2:=Rat.mul_nonneg h1 h1;grind
def Qwp{z w:QC}(h:¬z=w):0<nm (z-w):=by
 have h0:nm (z-w)≠0:=Koa (fun e=>h (Qtl.1 e));have a1:=rsq (z-w).re;have a2:=rsq (z-w).im;have h1:0≤nm (z-w):=by unfold nm;grind
 grind
def Qep(z w:QC):Rat:=w.im-z.im
def Qeq(z w:QC):Rat:=w.re*z.im-z.re*w.im
def Qer(z w:QC):Rat:=z.im*w.im-w.im*z.im
def Qhl(z w:QC):Rat:=nm z*w.im-nm w*z.im
def Qei(z w:QC):Rat:=up0 0 0 1 1 (-z.re) z.im 1 (-w.re) w.im
def Qej(z w:QC):Rat:=up1 0 1 0 1 z.im (nm z) 1 w.im (nm w)
def Qek(z w:QC):Rat:=up2 0 0 0 1 (-z.re) (nm z) 1 (-w.re) (nm w)
def Qhb(z w:QC):Rat:=up3 0 1 0 (-z.re) z.im (nm z) (-w.re) w.im (nm w)
def Umz{z w:QC}(hz:0<z.im)(hw:0<w.im)(hne:¬z=w):0<Qao (Qep z w) (Qeq z w) (Qer z w) (Qhl z w) (Qep z w) (Qeq z w) (Qer z w) (Qhl z w):=by
 have e:Qao (Qep z w) (Qeq z w) (Qer z w) (Qhl z w) (Qep z w) (Qeq z w) (Qer z w) (Qhl z w)=z.im*w.im*nm (z-w):=by
  simp only[Qao,Qep,Qeq,Qer,Qhl,up0,up1,up2,up3,det3,nm,qsr,qsi];grind
 have h1:=Qwp hne;have h2:=Qdv hz hw;have h3:=Qdv h2 h1;have h4:=Qdv h1 h1;have h5:=Qdv h1 h2;rw[e];grind
def Umo{z w:QC}(hz:0<z.im)(hw:0<w.im)(hne:¬z=w):0<Qao (Qei z w) (Qej z w) (Qek z w) (Qhb z w) (Qei z w) (Qej z w) (Qek z w) (Qhb z w):=by
 have e:Qao (Qei z w) (Qej z w) (Qek z w) (Qhb z w) (Qei z w) (Qej z w) (Qek z w) (Qhb z w)=(1/16)*nm (z-w)*(nm (z-w)+4*z.im*w.im):=by
  simp only[Qao,Qei,Qej,Qek,Qhb,up0,up1,up2,up3,det3,nm,qsr,qsi];grind
 have h1:=Qwp hne;have h2:=Qdv hz hw;have h3:=Qdv h2 h1;have h4:=Qdv h1 h1;have h5:=Qdv h1 h2;rw[e];grind
def Qfm(z w:QC):Rat:=(1-nm w)-(1-nm z)
def Qfn(z w:QC):Rat:=w.re*(1-nm z)-z.re*(1-nm w)
def Qfo(z w:QC):Rat:=z.im*(1-nm w)-w.im*(1-nm z)
def Qhn(z w:QC):Rat:=nm z*(1-nm w)-nm w*(1-nm z)
def Qel(z w:QC):Rat:=up0 1 0 0 1 (-z.re) z.im 1 (-w.re) w.im
def Qem(z w:QC):Rat:=up1 1 0 (-1) 1 z.im (nm z) 1 w.im (nm w)
def Qen(z w:QC):Rat:=up2 1 0 (-1) 1 (-z.re) (nm z) 1 (-w.re) (nm w)
def Qhc(z w:QC):Rat:=up3 0 0 (-1) (-z.re) z.im (nm z) (-w.re) w.im (nm w)
def Una{z w:QC}(hz:0<(1-nm z))(hw:0<(1-nm w))(hne:¬z=w):0<Qao (Qfm z w) (Qfn z w) (Qfo z w) (Qhn z w) (Qfm z w) (Qfn z w) (Qfo z w) (Qhn z w):=by
 have e:Qao (Qfm z w) (Qfn z w) (Qfo z w) (Qhn z w) (Qfm z w) (Qfn z w) (Qfo z w) (Qhn z w)=(1-nm z)*(1-nm w)*nm (z-w):=by
  simp only[Qao,Qfm,Qfn,Qfo,Qhn,up0,up1,up2,up3,det3,nm,qsr,qsi];grind
 have h1:=Qwp hne;have h2:=Qdv hz hw;have h3:=Qdv h2 h1;have h4:=Qdv h1 h1;have h5:=Qdv h1 h2;rw[e];grind
def Ump{z w:QC}(hz:0<(1-nm z))(hw:0<(1-nm w))(hne:¬z=w):0<Qao (Qel z w) (Qem z w) (Qen z w) (Qhc z w) (Qel z w) (Qem z w) (Qen z w) (Qhc z w):=by
 have e:Qao (Qel z w) (Qem z w) (Qen z w) (Qhc z w) (Qel z w) (Qem z w) (Qen z w) (Qhc z w)=(1/16)*nm (z-w)*(nm (z-w)+(1-nm z)*(1-nm w)):=by
  simp only[Qao,Qel,Qem,Qen,Qhc,up0,up1,up2,up3,det3,nm,qsr,qsi];grind
 have h1:=Qwp hne;have h2:=Qdv hz hw;have h3:=Qdv h2 h1;have h4:=Qdv h1 h1;have h5:=Qdv h1 h2;rw[e];grind
def Kpo(z w:QC):Rat:=((1:Rat)*w.im)-((1:Rat)*z.im)
def Uhw(z w:QC)(b_z:Qac z)(b_w:Qac w):RL (Kpo z w) 4097:=(Qae ((1:Rat)*w.im) ((1:Rat)*z.im) (Qab (1:Rat) w.im (ri 1) (Qag w (Qaa b_w))) (Qab (1:Rat) z.im (ri 1) (Qag z (Qaa b_z)))).mn
def Kpp(z w:QC):Rat:=((-z.re)*w.im)-((-w.re)*z.im)
def Uhx(z w:QC)(b_z:Qac z)(b_w:Qac w):RL (Kpp z w) 4097:=(Qae ((-z.re)*w.im) ((-w.re)*z.im) (Qab (-z.re) w.im (Qbq ((Qaa b_z).1)) (Qag w (Qaa b_w))) (Qab (-w.re) z.im (Qbq ((Qaa b_w).1)) (Qag z (Qaa b_z)))).mn
def Kpq(z w:QC):Rat:=((nm z)*w.im)-((nm w)*z.im)
def Uhy(z w:QC)(b_z:Qac z)(b_w:Qac w):RL (Kpq z w) 16389:=(Qae ((nm z)*w.im) ((nm w)*z.im) (Qab (nm z) w.im (Qal (Qaa b_z)) ((Qag w (Qaa b_w)).mn)) (Qab (nm w) z.im (Qal (Qaa b_w)) ((Qag z (Qaa b_z)).mn))).mn
def Umu(z w:QC)(hz:hN1 z)(hw:hN1 w)(hne:¬(z=w)):0<Qao (Kpo z w) (Kpp z w) ((z.im*w.im)-(w.im*z.im)) (Kpq z w) (Kpo z w) (Kpp z w) ((z.im*w.im)-(w.im*z.im)) (Kpq z w):=by
 rw[show(Kpo z w)=Qep z w from by simp only[Kpo,Qep,up0,up1,up2,up3,det3]<;>grind,show(Kpp z w)=Qeq z w from by simp only[Kpp,Qeq,up0,up1,up2,up3,det3]<;>grind,show((z.im*w.im)-(w.im*z.im))=Qer z w from by simp only[Qer,up0,up1,up2,up3,det3]<;>grind,show(Kpq z w)=Qhl z w from by simp only[Kpq,Qhl,up0,up1,up2,up3,det3]<;>grind];exact Umz (Qdf hz) (Qdf hw) hne
def Uvb(z w:QC)(b_z:Qac z)(b_w:Qac w)(hz:hN1 z)(hw:hN1 w)(hne:¬(z=w))(hS:Qno (Kpo z w) (Kpp z w) ((z.im*w.im)-(w.im*z.im)) (Kpq z w)):SCt 28 [gIi 1,.row ((Qah z).cells),.row ((Qah w).cells)] (.tup [.row (Qsj (Kpo z w) (Kpp z w) ((z.im*w.im)-(w.im*z.im)) (Kpq z w)),gIi 0]) :=
  have t1:=Qqb 0 1;have t2:=Qqb 0 0;have t3:=Qbs z ((Qaa b_z).mn);have t4:=Qbs w ((Qaa b_w).mn);have t5:=Qfc z ((Qaa b_z).mn);have t6:=Qfc w ((Qaa b_w).mn);have t7:=Qan (1:Rat) w.im (ri 1) ((Qag w (Qaa b_w)).mn);have t8:=Qan (1:Rat) z.im (ri 1) ((Qag z (Qaa b_z)).mn);have t9:=Qaz ((1:Rat)*w.im) ((1:Rat)*z.im) ((Qab (1:Rat) w.im (ri 1) (Qag w (Qaa b_w))).mn) ((Qab (1:Rat) z.im (ri 1) (Qag z (Qaa b_z))).mn);have t10:=Qan (-z.re) w.im ((Qbq ((Qaa b_z).1)).mn) ((Qag w (Qaa b_w)).mn);have t11:=Qan (-w.re) z.im ((Qbq ((Qaa b_w).1)).mn) ((Qag z (Qaa b_z)).mn);have t12:=Qaz ((-z.re)*w.im) ((-w.re)*z.im) ((Qab (-z.re) w.im (Qbq ((Qaa b_z).1)) (Qag w (Qaa b_w))).mn) ((Qab (-w.re) z.im (Qbq ((Qaa b_w).1)) (Qag z (Qaa b_z))).mn);have t13:=Qan z.im w.im (((Qaa b_z).2).mn) ((Qag w (Qaa b_w)).mn);have t14:=Qan w.im z.im (((Qaa b_w).2).mn) ((Qag z (Qaa b_z)).mn);have t15:=Qaz (z.im*w.im) (w.im*z.im) ((Qab z.im w.im ((Qaa b_z).2) (Qag w (Qaa b_w))).mn) ((Qab w.im z.im ((Qaa b_w).2) (Qag z (Qaa b_z))).mn);have t16:=Qan (nm z) w.im ((Qal (Qaa b_z)).mn) ((Qag w (Qaa b_w)).mn);have t17:=Qan (nm w) z.im ((Qal (Qaa b_w)).mn) ((Qag z (Qaa b_z)).mn);have t18:=Qaz ((nm z)*w.im) ((nm w)*z.im) ((Qab (nm z) w.im (Qal (Qaa b_z)) ((Qag w (Qaa b_w)).mn)).mn) ((Qab (nm w) z.im (Qal (Qaa b_w)) ((Qag z (Qaa b_z)).mn)).mn);have t19:=Kct (Kpo z w) (Kpp z w) ((z.im*w.im)-(w.im*z.im)) (Kpq z w) ((Uhw z w b_z b_w).mn) ((Uhx z w b_z b_w).mn) ((Qae (z.im*w.im) (w.im*z.im) (Qab z.im w.im ((Qaa b_z).2) (Qag w (Qaa b_w))) (Qab w.im z.im ((Qaa b_w).2) (Qag z (Qaa b_z)))).mn) ((Uhy z w b_z b_w).mn) (Qld (Umu z w hz hw hne))
  Qbn (L := [(Qah z).cells,(Qah w).cells,(Qah (⟨0,1⟩ : QC)).cells,(Qah (⟨0,0⟩ : QC)).cells,cn z,[gr z.re,gr z.im,gxi z.im.num.sign],cn w,[gr w.re,gr w.im,gxi w.im.num.sign,gr (1 : Rat),gr (-z.re),gr z.im,gr (nm z),gr (1 : Rat),gr (-w.re),gr w.im,gr (nm w),gr ((1 : Rat) * w.im),gr ((1 : Rat) * z.im),gr (Kpo z w),gr ((-z.re) * w.im),gr ((-w.re) * z.im),gr (Kpp z w),gr (z.im * w.im),gr (w.im * z.im),gr ((z.im * w.im)-(w.im * z.im)),gr ((nm z) * w.im),gr ((nm w) * z.im),gr (Kpq z w)],Qsj (Kpo z w) (Kpp z w) ((z.im * w.im)-(w.im * z.im)) (Kpq z w)].flatten) Qai Qap
     [gs (t1) [lc 0,lc 1] (.r (yR 16 8)),gs (t2) [lc 0,lc 0] (.r (yR 24 8)),gs (Qew z b_z) [yR 0 8] (.tup [sy [32,33],cTt]),gs (t3) [sy [32,33]] (.tup [cS 34,cS 35]),gs (Qau z.im) [cS 35] (rS 36),gs (Qew w b_w) [yR 8 8] (.tup [sy [37,38],cTt]),gs (t4) [sy [37,38]] (.tup [cS 39,cS 40]),gs (Qau w.im) [cS 40] (rS 41),gs (t5) [sy [32,33]] (.r (yR 42 4)),gs (t6) [sy [37,38]] (.r (yR 46 4)),gs (t7) [cS 42,cS 40] (rS 50),gs (t8) [cS 46,cS 35] (rS 51),gs (t9) [cS 50,cS 51] (rS 52),gs (t10) [cS 43,cS 40] (rS 53),gs (t11) [cS 47,cS 35] (rS 54),gs (t12) [cS 53,cS 54] (rS 55),gs (t13) [cS 44,cS 40] (rS 56),gs (t14) [cS 48,cS 35] (rS 57),gs (t15) [cS 56,cS 57] (rS 58),gs (t16) [cS 45,cS 40] (rS 59),gs (t17) [cS 49,cS 35] (rS 60),gs (t18) [cS 59,cS 60] (rS 61),gs (t19 hS) [.row [.sym 52,.sym 55,.sym 58,.sym 61]] (.tup [yR 62 16,lc 0])]
     [bLf 3 36 hz,bLf 3 41 hw,bG (yR 0 8) (yR 8 8) (Qah z) (Qah w) false ((fI hne).trans Qdk.symm)] [] ((Kiz (Kfq (Qmv (Qmw (Qmx (Qmp (Kfr (Knd .nil)))))))):FnsOk prog _) 1 3 func28 eo28 2000 [lc 1,yR 0 8,yR 8 8] (.tup [yR 62 16,lc 0])
def Kka(z w:QC) :Kpo z w=Qep z w:=by
 simp only[Kpo,Qep,Qeq,Qer,Qhl,up0,up1,up2,up3,det3]<;>grind
def Kkb(z w:QC) :Kpp z w=Qeq z w:=by
 simp only[Kpp,Qep,Qeq,Qer,Qhl,up0,up1,up2,up3,det3]<;>grind
def Kkc(z w:QC) :(z.im*w.im)-(w.im*z.im)=Qer z w:=by
 simp only[Qep,Qeq,Qer,Qhl,up0,up1,up2,up3,det3]<;>grind
def Kkd(z w:QC) :Kpq z w=Qhl z w:=by
 simp only[Kpq,Qep,Qeq,Qer,Qhl,up0,up1,up2,up3,det3]<;>grind
def Udf(z w:QC)(b_z:Qac z)(b_w:Qac w)(hz:hN1 z)(hw:hN1 w)(hne:¬(z=w))(hS:Qno (Qep z w) (Qeq z w) (Qer z w) (Qhl z w)):SCt 28 [gIi 1,.row ((Qah z).cells),.row ((Qah w).cells)] (.tup [.row (Qsj (Qep z w) (Qeq z w) (Qer z w) (Qhl z w)),gIi 0]):=by
 have k_:=Uvb z w b_z b_w hz hw hne (by simp only[Kka z w ,Kkb z w ,Kkc z w ,Kkd z w ];exact hS);simp only[Kka z w ,Kkb z w ,Kkc z w ,Kkd z w ] at k_;exact k_
def Kpr(z w:QC):Rat:=up0 (0:Rat) (0:Rat) (1:Rat) (1:Rat) (-z.re) z.im (1:Rat) (-w.re) w.im
def Uhz(z w:QC)(b_z:Qac z)(b_w:Qac w):RL (Kpr z w) 163960:=(Qkf (0:Rat) (0:Rat) (1:Rat) (0:Rat) (1:Rat) (-z.re) z.im (nm z) (1:Rat) (-w.re) w.im (nm w) (ri 0) (ri 0) (ri 1) (ri 0) (ri 1) ((Qbq ((Qaa b_z).1)).mn) (((Qaa b_z).2).mn) (Qal (Qaa b_z)) (ri 1) ((Qbq ((Qaa b_w).1)).mn) (((Qaa b_w).2).mn) (Qal (Qaa b_w))).mn
def Kps(z w:QC):Rat:=up1 (0:Rat) (1:Rat) (0:Rat) (1:Rat) z.im (nm z) (1:Rat) w.im (nm w)
def Uia(z w:QC)(b_z:Qac z)(b_w:Qac w):RL (Kps z w) 196762:=(Qkg (0:Rat) (0:Rat) (1:Rat) (0:Rat) (1:Rat) (-z.re) z.im (nm z) (1:Rat) (-w.re) w.im (nm w) (ri 0) (ri 0) (ri 1) (ri 0) (ri 1) ((Qbq ((Qaa b_z).1)).mn) (((Qaa b_z).2).mn) (Qal (Qaa b_z)) (ri 1) ((Qbq ((Qaa b_w).1)).mn) (((Qaa b_w).2).mn) (Qal (Qaa b_w))).mn
def Kpt(z w:QC):Rat:=up2 (0:Rat) (0:Rat) (0:Rat) (1:Rat) (-z.re) (nm z) (1:Rat) (-w.re) (nm w)
def Uib(z w:QC)(b_z:Qac z)(b_w:Qac w):RL (Kpt z w) 196762:=(Qkh (0:Rat) (0:Rat) (1:Rat) (0:Rat) (1:Rat) (-z.re) z.im (nm z) (1:Rat) (-w.re) w.im (nm w) (ri 0) (ri 0) (ri 1) (ri 0) (ri 1) ((Qbq ((Qaa b_z).1)).mn) (((Qaa b_z).2).mn) (Qal (Qaa b_z)) (ri 1) ((Qbq ((Qaa b_w).1)).mn) (((Qaa b_w).2).mn) (Qal (Qaa b_w))).mn
def Kpu(z w:QC):Rat:=up3 (0:Rat) (1:Rat) (0:Rat) (-z.re) z.im (nm z) (-w.re) w.im (nm w)
def Uic(z w:QC)(b_z:Qac z)(b_w:Qac w):RL (Kpu z w) 163960:=(Qki (0:Rat) (0:Rat) (1:Rat) (0:Rat) (1:Rat) (-z.re) z.im (nm z) (1:Rat) (-w.re) w.im (nm w) (ri 0) (ri 0) (ri 1) (ri 0) (ri 1) ((Qbq ((Qaa b_z).1)).mn) (((Qaa b_z).2).mn) (Qal (Qaa b_z)) (ri 1) ((Qbq ((Qaa b_w).1)).mn) (((Qaa b_w).2).mn) (Qal (Qaa b_w))).mn
def Umg(z w:QC)(hz:hN1 z)(hw:hN1 w)(hne:¬(z=w)):0<Qao (Kpr z w) (Kps z w) (Kpt z w) (Kpu z w) (Kpr z w) (Kps z w) (Kpt z w) (Kpu z w):=by
 rw[show(Kpr z w)=Qei z w from by simp only[Kpr,Qei,up0,up1,up2,up3,det3]<;>grind,show(Kps z w)=Qej z w from by simp only[Kps,Qej,up0,up1,up2,up3,det3]<;>grind,show(Kpt z w)=Qek z w from by simp only[Kpt,Qek,up0,up1,up2,up3,det3]<;>grind,show(Kpu z w)=Qhb z w from by simp only[Kpu,Qhb,up0,up1,up2,up3,det3]<;>grind];exact Umo (Qdf hz) (Qdf hw) hne
def Uuz(z w:QC)(b_z:Qac z)(b_w:Qac w)(hz:hN1 z)(hw:hN1 w)(hne:¬(z=w))(hS:Qno (Kpr z w) (Kps z w) (Kpt z w) (Kpu z w)):SCt 26 [gIi 1,.row ((Qah z).cells),.row ((Qah w).cells)] (.tup [.row (Qsj (Kpr z w) (Kps z w) (Kpt z w) (Kpu z w)),gIi 0]) :=
  have t1:=Qqb 0 1;have t2:=Qqb 0 0;have t3:=Qbs z ((Qaa b_z).mn);have t4:=Qbs w ((Qaa b_w).mn);have t5:=pnr 0;have t6:=pnr 1;have t7:=Qfc z ((Qaa b_z).mn);have t8:=Qfc w ((Qaa b_w).mn);have t9:=Qln (0:Rat) (0:Rat) (1:Rat) (0:Rat) (1:Rat) (-z.re) z.im (nm z) (1:Rat) (-w.re) w.im (nm w) (ri 0) (ri 0) (ri 1) (ri 0) (ri 1) ((Qbq ((Qaa b_z).1)).mn) (((Qaa b_z).2).mn) ((Qal (Qaa b_z)).mn) (ri 1) ((Qbq ((Qaa b_w).1)).mn) (((Qaa b_w).2).mn) ((Qal (Qaa b_w)).mn);have t10:=Kct (Kpr z w) (Kps z w) (Kpt z w) (Kpu z w) ((Uhz z w b_z b_w).mn) ((Uia z w b_z b_w).mn) ((Uib z w b_z b_w).mn) ((Uic z w b_z b_w).mn) (Qld (Umg z w hz hw hne))
  Qbn (L := [(Qah z).cells,(Qah w).cells,(Qah (⟨0,1⟩ : QC)).cells,(Qah (⟨0,0⟩ : QC)).cells,cn z,[gr z.re,gr z.im,gxi z.im.num.sign],cn w,[gr w.re,gr w.im,gxi w.im.num.sign,gr (0 : Rat),gr (1 : Rat),gr (1 : Rat),gr (-z.re),gr z.im,gr (nm z),gr (1 : Rat),gr (-w.re),gr w.im,gr (nm w),gr (Kpr z w),gr (Kps z w),gr (Kpt z w),gr (Kpu z w)],Qsj (Kpr z w) (Kps z w) (Kpt z w) (Kpu z w)].flatten) Qai Qap
     [gs (t1) [lc 0,lc 1] (.r (yR 16 8)),gs (t2) [lc 0,lc 0] (.r (yR 24 8)),gs (Qew z b_z) [yR 0 8] (.tup [sy [32,33],cTt]),gs (t3) [sy [32,33]] (.tup [cS 34,cS 35]),gs (Qau z.im) [cS 35] (rS 36),gs (Qew w b_w) [yR 8 8] (.tup [sy [37,38],cTt]),gs (t4) [sy [37,38]] (.tup [cS 39,cS 40]),gs (Qau w.im) [cS 40] (rS 41),gs (t5) [lc 0,lc 1] (rS 42),gs (t6) [lc 1,lc 1] (rS 43),gs (t7) [sy [32,33]] (.r (yR 44 4)),gs (t8) [sy [37,38]] (.r (yR 48 4)),
      gsG (t9) 34 ⟨flA [[.sym 42,.sym 42,.sym 43,.sym 42],Qba 44 8],89,none⟩ [.c (.sl 0 0 3 3)] (.r (yR 52 4)),gs (t10 hS) [yR 52 4] (.tup [yR 56 16,lc 0])]
     [bLf 3 36 hz,bLf 3 41 hw,bG (yR 0 8) (yR 8 8) (Qah z) (Qah w) false ((fI hne).trans Qdk.symm)] [] ((Kiz (Kfq (Qmv (Qmw (Qmx (Qmp (Kfr (Knd .nil)))))))):FnsOk prog _) 1 3 func26 eo26 2000 [lc 1,yR 0 8,yR 8 8] (.tup [yR 56 16,lc 0])
def Kjs(z w:QC) :Kpr z w=Qei z w:=by
 simp only[Kpr,Qei,Qej,Qek,Qhb,up0,up1,up2,up3,det3]<;>grind
def Kjt(z w:QC) :Kps z w=Qej z w:=by
 simp only[Kps,Qei,Qej,Qek,Qhb,up0,up1,up2,up3,det3]<;>grind
def Kju(z w:QC) :Kpt z w=Qek z w:=by
 simp only[Kpt,Qei,Qej,Qek,Qhb,up0,up1,up2,up3,det3]<;>grind
def Kjv(z w:QC) :Kpu z w=Qhb z w:=by
 simp only[Kpu,Qei,Qej,Qek,Qhb,up0,up1,up2,up3,det3]<;>grind
def Uno(z w:QC)(b_z:Qac z)(b_w:Qac w)(hz:hN1 z)(hw:hN1 w)(hne:¬(z=w))(hS:Qno (Qei z w) (Qej z w) (Qek z w) (Qhb z w)):SCt 26 [gIi 1,.row ((Qah z).cells),.row ((Qah w).cells)] (.tup [.row (Qsj (Qei z w) (Qej z w) (Qek z w) (Qhb z w)),gIi 0]):=by
 have k_:=Uuz z w b_z b_w hz hw hne (by simp only[Kjs z w ,Kjt z w ,Kju z w ,Kjv z w ];exact hS);simp only[Kjs z w ,Kjt z w ,Kju z w ,Kjv z w ] at k_;exact k_
def Kgy(w:QC):Rat:=(1:Rat)*((1:Rat)-(nm w))
def Kvl(w:QC)(b_w:Qac w):RL (Kgy w) 16390:=(Qab (1:Rat) ((1:Rat)-(nm w)) (ri 1) (Qae (1:Rat) (nm w) (ri 1) (Qal (Qaa b_w)))).mn
def Kgz(z:QC):Rat:=(1:Rat)*((1:Rat)-(nm z))
def Kvm(z:QC)(b_z:Qac z):RL (Kgz z) 16390:=(Qab (1:Rat) ((1:Rat)-(nm z)) (ri 1) (Qae (1:Rat) (nm z) (ri 1) (Qal (Qaa b_z)))).mn
def Kpv(z w:QC):Rat:=((-z.re)*((1:Rat)-(nm w)))-((-w.re)*((1:Rat)-(nm z)))
def Uid(z w:QC)(b_z:Qac z)(b_w:Qac w):RL (Kpv z w) 32781:=(Qae ((-z.re)*((1:Rat)-(nm w))) ((-w.re)*((1:Rat)-(nm z))) (Qab (-z.re) ((1:Rat)-(nm w)) ((Qbq ((Qaa b_z).1)).mn) (Qae (1:Rat) (nm w) (ri 1) (Qal (Qaa b_w)))) (Qab (-w.re) ((1:Rat)-(nm z)) ((Qbq ((Qaa b_w).1)).mn) (Qae (1:Rat) (nm z) (ri 1) (Qal (Qaa b_z))))).mn
def Kpw(z w:QC):Rat:=(z.im*((1:Rat)-(nm w)))-(w.im*((1:Rat)-(nm z)))
def Uie(z w:QC)(b_z:Qac z)(b_w:Qac w):RL (Kpw z w) 32781:=(Qae (z.im*((1:Rat)-(nm w))) (w.im*((1:Rat)-(nm z))) (Qab z.im ((1:Rat)-(nm w)) (((Qaa b_z).2).mn) (Qae (1:Rat) (nm w) (ri 1) (Qal (Qaa b_w)))) (Qab w.im ((1:Rat)-(nm z)) (((Qaa b_w).2).mn) (Qae (1:Rat) (nm z) (ri 1) (Qal (Qaa b_z))))).mn
def Kpx(z w:QC):Rat:=((nm z)*((1:Rat)-(nm w)))-((nm w)*((1:Rat)-(nm z)))
def Uif(z w:QC)(b_z:Qac z)(b_w:Qac w):RL (Kpx z w) 32781:=(Qae ((nm z)*((1:Rat)-(nm w))) ((nm w)*((1:Rat)-(nm z))) (Qab (nm z) ((1:Rat)-(nm w)) ((Qal (Qaa b_z)).mn) (Qae (1:Rat) (nm w) (ri 1) (Qal (Qaa b_w)))) (Qab (nm w) ((1:Rat)-(nm z)) ((Qal (Qaa b_w)).mn) (Qae (1:Rat) (nm z) (ri 1) (Qal (Qaa b_z))))).mn
def Umx(z w:QC)(hz:hN2 z)(hw:hN2 w)(hne:¬(z=w)):0<Qao ((Kgy w)-(Kgz z)) (Kpv z w) (Kpw z w) (Kpx z w) ((Kgy w)-(Kgz z)) (Kpv z w) (Kpw z w) (Kpx z w):=by
 rw[show((Kgy w)-(Kgz z))=Qfm z w from by simp only[Kgy,Kgz,Qfm,up0,up1,up2,up3,det3]<;>grind,show(Kpv z w)=Qfn z w from by simp only[Kpv,Qfn,up0,up1,up2,up3,det3]<;>grind,show(Kpw z w)=Qfo z w from by simp only[Kpw,Qfo,up0,up1,up2,up3,det3]<;>grind,show(Kpx z w)=Qhn z w from by simp only[Kpx,Qhn,up0,up1,up2,up3,det3]<;>grind];exact Una (Qdf hz) (Qdf hw) hne
def Uvc(z w:QC)(b_z:Qac z)(b_w:Qac w)(hz:hN2 z)(hw:hN2 w)(hne:¬(z=w))(hS:Qno ((Kgy w)-(Kgz z)) (Kpv z w) (Kpw z w) (Kpx z w)):SCt 28 [gIi 2,.row ((Qah z).cells),.row ((Qah w).cells)] (.tup [.row (Qsj ((Kgy w)-(Kgz z)) (Kpv z w) (Kpw z w) (Kpx z w)),gIi 0]) :=
  have t1:=Qqb 0 1;have t2:=Qqb 0 0;have t3:=pnr 1;have t4:=Qbw z ((Qaa b_z).mn);have t5:=Qaz (1:Rat) (nm z) (ri 1) ((Qal (Qaa b_z)).mn);have t6:=Qau ((1:Rat)-(nm z));have t7:=Qbw w ((Qaa b_w).mn);have t8:=Qaz (1:Rat) (nm w) (ri 1) ((Qal (Qaa b_w)).mn);have t9:=Qau ((1:Rat)-(nm w));have t10:=Qfc z ((Qaa b_z).mn);have t11:=Qfc w ((Qaa b_w).mn);have t12:=Qan (1:Rat) ((1:Rat)-(nm w)) (ri 1) ((Qae (1:Rat) (nm w) (ri 1) (Qal (Qaa b_w))).mn);have t13:=Qan (1:Rat) ((1:Rat)-(nm z)) (ri 1) ((Qae (1:Rat) (nm z) (ri 1) (Qal (Qaa b_z))).mn);have t14:=Qaz (Kgy w) (Kgz z) ((Kvl w b_w).mn) ((Kvm z b_z).mn);have t15:=Qan (-z.re) ((1:Rat)-(nm w)) ((Qbq ((Qaa b_z).1)).mn) ((Qae (1:Rat) (nm w) (ri 1) (Qal (Qaa b_w))).mn);have t16:=Qan (-w.re) ((1:Rat)-(nm z)) ((Qbq ((Qaa b_w).1)).mn) ((Qae (1:Rat) (nm z) (ri 1) (Qal (Qaa b_z))).mn);have t17:=Qaz ((-z.re)*((1:Rat)-(nm w))) ((-w.re)*((1:Rat)-(nm z))) ((Qab (-z.re) ((1:Rat)-(nm w)) ((Qbq ((Qaa b_z).1)).mn) (Qae (1:Rat) (nm w) (ri 1) (Qal (Qaa b_w)))).mn) ((Qab (-w.re) ((1:Rat)-(nm z)) ((Qbq ((Qaa b_w).1)).mn) (Qae (1:Rat) (nm z) (ri 1) (Qal (Qaa b_z)))).mn);have t18:=Qan z.im ((1:Rat)-(nm w)) (((Qaa b_z).2).mn) ((Qae (1:Rat) (nm w) (ri 1) (Qal (Qaa b_w))).mn);have t19:=Qan w.im ((1:Rat)-(nm z)) (((Qaa b_w).2).mn) ((Qae (1:Rat) (nm z) (ri 1) (Qal (Qaa b_z))).mn);have t20:=Qaz (z.im*((1:Rat)-(nm w))) (w.im*((1:Rat)-(nm z))) ((Qab z.im ((1:Rat)-(nm w)) (((Qaa b_z).2).mn) (Qae (1:Rat) (nm w) (ri 1) (Qal (Qaa b_w)))).mn) ((Qab w.im ((1:Rat)-(nm z)) (((Qaa b_w).2).mn) (Qae (1:Rat) (nm z) (ri 1) (Qal (Qaa b_z)))).mn);have t21:=Qan (nm z) ((1:Rat)-(nm w)) ((Qal (Qaa b_z)).mn) ((Qae (1:Rat) (nm w) (ri 1) (Qal (Qaa b_w))).mn);have t22:=Qan (nm w) ((1:Rat)-(nm z)) ((Qal (Qaa b_w)).mn) ((Qae (1:Rat) (nm z) (ri 1) (Qal (Qaa b_z))).mn);have t23:=Qaz ((nm z)*((1:Rat)-(nm w))) ((nm w)*((1:Rat)-(nm z))) ((Qab (nm z) ((1:Rat)-(nm w)) ((Qal (Qaa b_z)).mn) (Qae (1:Rat) (nm w) (ri 1) (Qal (Qaa b_w)))).mn) ((Qab (nm w) ((1:Rat)-(nm z)) ((Qal (Qaa b_w)).mn) (Qae (1:Rat) (nm z) (ri 1) (Qal (Qaa b_z)))).mn);have t24:=Kct ((Kgy w)-(Kgz z)) (Kpv z w) (Kpw z w) (Kpx z w) ((Qae (Kgy w) (Kgz z) (Kvl w b_w) (Kvm z b_z)).mn) ((Uid z w b_z b_w).mn) ((Uie z w b_z b_w).mn) ((Uif z w b_z b_w).mn) (Qld (Umx z w hz hw hne))
  Qbn (L := [(Qah z).cells,(Qah w).cells,(Qah (⟨0,1⟩ : QC)).cells,(Qah (⟨0,0⟩ : QC)).cells,cn z,[gr (1 : Rat),gr (nm z),gr ((1 : Rat)-(nm z)),gxi (((1 : Rat)-(nm z)).num.sign)],cn w,[gr (nm w),gr ((1 : Rat)-(nm w)),gxi (((1 : Rat)-(nm w)).num.sign),gr (1 : Rat),gr (-z.re),gr z.im,gr (nm z),gr (1 : Rat),gr (-w.re),gr w.im,gr (nm w),gr (Kgy w),gr (Kgz z),gr ((Kgy w)-(Kgz z)),gr ((-z.re) * ((1 : Rat)-(nm w))),gr ((-w.re) * ((1 : Rat)-(nm z))),gr (Kpv z w),gr (z.im * ((1 : Rat)-(nm w))),gr (w.im * ((1 : Rat)-(nm z))),gr (Kpw z w),gr ((nm z) * ((1 : Rat)-(nm w))),gr ((nm w) * ((1 : Rat)-(nm z))),gr (Kpx z w)],Qsj ((Kgy w)-(Kgz z)) (Kpv z w) (Kpw z w) (Kpx z w)].flatten) Qai Qap
     [gs (t1) [lc 0,lc 1] (.r (yR 16 8)),gs (t2) [lc 0,lc 0] (.r (yR 24 8)),gs (Qew z b_z) [yR 0 8] (.tup [sy [32,33],cTt]),gs (t3) [lc 1,lc 1] (rS 34),gs (t4) [sy [32,33]] (rS 35),gs (t5) [cS 34,cS 35] (rS 36),gs (t6) [cS 36] (rS 37),gs (Qew w b_w) [yR 8 8] (.tup [sy [38,39],cTt]),gs (t7) [sy [38,39]] (rS 40),gs (t8) [cS 34,cS 40] (rS 41),gs (t9) [cS 41] (rS 42),gs (t10) [sy [32,33]] (.r (yR 43 4)),gs (t11) [sy [38,39]] (.r (yR 47 4)),gs (t12) [cS 43,cS 41] (rS 51),gs (t13) [cS 47,cS 36] (rS 52),gs (t14) [cS 51,cS 52] (rS 53),gs (t15) [cS 44,cS 41] (rS 54),gs (t16) [cS 48,cS 36] (rS 55),gs (t17) [cS 54,cS 55] (rS 56),gs (t18) [cS 45,cS 41] (rS 57),gs (t19) [cS 49,cS 36] (rS 58),gs (t20) [cS 57,cS 58] (rS 59),gs (t21) [cS 46,cS 41] (rS 60),gs (t22) [cS 50,cS 36] (rS 61),gs (t23) [cS 60,cS 61] (rS 62),gs (t24 hS) [.row [.sym 53,.sym 56,.sym 59,.sym 62]] (.tup [yR 63 16,lc 0])]
     [bLf 3 37 hz,bLf 3 42 hw,bG (yR 0 8) (yR 8 8) (Qah z) (Qah w) false ((fI hne).trans Qdk.symm)] [] ((Kiz (Kfq (Qmv (Qmw (Qmx (Qmp (Kfr (Knd .nil)))))))):FnsOk prog _) 1 3 func28 eo28 2000 [lc 2,yR 0 8,yR 8 8] (.tup [yR 63 16,lc 0])
def Kke(z w:QC) :(Kgy w)-(Kgz z)=Qfm z w:=by
 simp only[Kgy,Kgz,Qfm,Qfn,Qfo,Qhn,up0,up1,up2,up3,det3]<;>grind
def Kkf(z w:QC) :Kpv z w=Qfn z w:=by
 simp only[Kpv,Qfm,Qfn,Qfo,Qhn,up0,up1,up2,up3,det3]<;>grind
def Kkg(z w:QC) :Kpw z w=Qfo z w:=by
 simp only[Kpw,Qfm,Qfn,Qfo,Qhn,up0,up1,up2,up3,det3]<;>grind
def Kkh(z w:QC) :Kpx z w=Qhn z w:=by
 simp only[Kpx,Qfm,Qfn,Qfo,Qhn,up0,up1,up2,up3,det3]<;>grind
def Unq(z w:QC)(b_z:Qac z)(b_w:Qac w)(hz:hN2 z)(hw:hN2 w)(hne:¬(z=w))(hS:Qno (Qfm z w) (Qfn z w) (Qfo z w) (Qhn z w)):SCt 28 [gIi 2,.row ((Qah z).cells),.row ((Qah w).cells)] (.tup [.row (Qsj (Qfm z w) (Qfn z w) (Qfo z w) (Qhn z w)),gIi 0]):=by
 have k_:=Uvc z w b_z b_w hz hw hne (by simp only[Kke z w ,Kkf z w ,Kkg z w ,Kkh z w ];exact hS);simp only[Kke z w ,Kkf z w ,Kkg z w ,Kkh z w ] at k_;exact k_
def Kpy(z w:QC):Rat:=up0 (1:Rat) (0:Rat) (0:Rat) (1:Rat) (-z.re) z.im (1:Rat) (-w.re) w.im
def Uig(z w:QC)(b_z:Qac z)(b_w:Qac w):RL (Kpy z w) 163960:=(Qkf (1:Rat) (0:Rat) (0:Rat) (-1:Rat) (1:Rat) (-z.re) z.im (nm z) (1:Rat) (-w.re) w.im (nm w) (ri 1) (ri 0) (ri 0) (ri (-1)) (ri 1) ((Qbq ((Qaa b_z).1)).mn) (((Qaa b_z).2).mn) (Qal (Qaa b_z)) (ri 1) ((Qbq ((Qaa b_w).1)).mn) (((Qaa b_w).2).mn) (Qal (Qaa b_w))).mn
def Kpz(z w:QC):Rat:=up1 (1:Rat) (0:Rat) (-1:Rat) (1:Rat) z.im (nm z) (1:Rat) w.im (nm w)
def Uih(z w:QC)(b_z:Qac z)(b_w:Qac w):RL (Kpz z w) 196762:=(Qkg (1:Rat) (0:Rat) (0:Rat) (-1:Rat) (1:Rat) (-z.re) z.im (nm z) (1:Rat) (-w.re) w.im (nm w) (ri 1) (ri 0) (ri 0) (ri (-1)) (ri 1) ((Qbq ((Qaa b_z).1)).mn) (((Qaa b_z).2).mn) (Qal (Qaa b_z)) (ri 1) ((Qbq ((Qaa b_w).1)).mn) (((Qaa b_w).2).mn) (Qal (Qaa b_w))).mn
def Kqa(z w:QC):Rat:=up2 (1:Rat) (0:Rat) (-1:Rat) (1:Rat) (-z.re) (nm z) (1:Rat) (-w.re) (nm w)
def Uii(z w:QC)(b_z:Qac z)(b_w:Qac w):RL (Kqa z w) 196762:=(Qkh (1:Rat) (0:Rat) (0:Rat) (-1:Rat) (1:Rat) (-z.re) z.im (nm z) (1:Rat) (-w.re) w.im (nm w) (ri 1) (ri 0) (ri 0) (ri (-1)) (ri 1) ((Qbq ((Qaa b_z).1)).mn) (((Qaa b_z).2).mn) (Qal (Qaa b_z)) (ri 1) ((Qbq ((Qaa b_w).1)).mn) (((Qaa b_w).2).mn) (Qal (Qaa b_w))).mn
def Kqb(z w:QC):Rat:=up3 (0:Rat) (0:Rat) (-1:Rat) (-z.re) z.im (nm z) (-w.re) w.im (nm w)
def Uij(z w:QC)(b_z:Qac z)(b_w:Qac w):RL (Kqb z w) 163960:=(Qki (1:Rat) (0:Rat) (0:Rat) (-1:Rat) (1:Rat) (-z.re) z.im (nm z) (1:Rat) (-w.re) w.im (nm w) (ri 1) (ri 0) (ri 0) (ri (-1)) (ri 1) ((Qbq ((Qaa b_z).1)).mn) (((Qaa b_z).2).mn) (Qal (Qaa b_z)) (ri 1) ((Qbq ((Qaa b_w).1)).mn) (((Qaa b_w).2).mn) (Qal (Qaa b_w))).mn
def Umk(z w:QC)(hz:hN2 z)(hw:hN2 w)(hne:¬(z=w)):0<Qao (Kpy z w) (Kpz z w) (Kqa z w) (Kqb z w) (Kpy z w) (Kpz z w) (Kqa z w) (Kqb z w):=by
 rw[show(Kpy z w)=Qel z w from by simp only[Kpy,Qel,up0,up1,up2,up3,det3]<;>grind,show(Kpz z w)=Qem z w from by simp only[Kpz,Qem,up0,up1,up2,up3,det3]<;>grind,show(Kqa z w)=Qen z w from by simp only[Kqa,Qen,up0,up1,up2,up3,det3]<;>grind,show(Kqb z w)=Qhc z w from by simp only[Kqb,Qhc,up0,up1,up2,up3,det3]<;>grind];exact Ump (Qdf hz) (Qdf hw) hne
def Uva(z w:QC)(b_z:Qac z)(b_w:Qac w)(hz:hN2 z)(hw:hN2 w)(hne:¬(z=w))(hS:Qno (Kpy z w) (Kpz z w) (Kqa z w) (Kqb z w)):SCt 26 [gIi 2,.row ((Qah z).cells),.row ((Qah w).cells)] (.tup [.row (Qsj (Kpy z w) (Kpz z w) (Kqa z w) (Kqb z w)),gIi 0]) :=
  have t1:=Qqb 0 1;have t2:=Qqb 0 0;have t3:=pnr 1;have t4:=Qbw z ((Qaa b_z).mn);have t5:=Qaz (1:Rat) (nm z) (ri 1) ((Qal (Qaa b_z)).mn);have t6:=Qau ((1:Rat)-(nm z));have t7:=Qbw w ((Qaa b_w).mn);have t8:=Qaz (1:Rat) (nm w) (ri 1) ((Qal (Qaa b_w)).mn);have t9:=Qau ((1:Rat)-(nm w));have t10:=pnr 0;have t11:=pnr (-1);have t12:=Qfc z ((Qaa b_z).mn);have t13:=Qfc w ((Qaa b_w).mn);have t14:=Qln (1:Rat) (0:Rat) (0:Rat) (-1:Rat) (1:Rat) (-z.re) z.im (nm z) (1:Rat) (-w.re) w.im (nm w) (ri 1) (ri 0) (ri 0) (ri (-1)) (ri 1) ((Qbq ((Qaa b_z).1)).mn) (((Qaa b_z).2).mn) ((Qal (Qaa b_z)).mn) (ri 1) ((Qbq ((Qaa b_w).1)).mn) (((Qaa b_w).2).mn) ((Qal (Qaa b_w)).mn);have t15:=Kct (Kpy z w) (Kpz z w) (Kqa z w) (Kqb z w) ((Uig z w b_z b_w).mn) ((Uih z w b_z b_w).mn) ((Uii z w b_z b_w).mn) ((Uij z w b_z b_w).mn) (Qld (Umk z w hz hw hne))
  Qbn (L := [(Qah z).cells,(Qah w).cells,(Qah (⟨0,1⟩ : QC)).cells,(Qah (⟨0,0⟩ : QC)).cells,cn z,[gr (1 : Rat),gr (nm z),gr ((1 : Rat)-(nm z)),gxi (((1 : Rat)-(nm z)).num.sign)],cn w,[gr (nm w),gr ((1 : Rat)-(nm w)),gxi (((1 : Rat)-(nm w)).num.sign),gr (0 : Rat),gr (-1 : Rat),gr (1 : Rat),gr (-z.re),gr z.im,gr (nm z),gr (1 : Rat),gr (-w.re),gr w.im,gr (nm w),gr (Kpy z w),gr (Kpz z w),gr (Kqa z w),gr (Kqb z w)],Qsj (Kpy z w) (Kpz z w) (Kqa z w) (Kqb z w)].flatten) Qai Qap
     [gs (t1) [lc 0,lc 1] (.r (yR 16 8)),gs (t2) [lc 0,lc 0] (.r (yR 24 8)),gs (Qew z b_z) [yR 0 8] (.tup [sy [32,33],cTt]),gs (t3) [lc 1,lc 1] (rS 34),gs (t4) [sy [32,33]] (rS 35),gs (t5) [cS 34,cS 35] (rS 36),gs (t6) [cS 36] (rS 37),gs (Qew w b_w) [yR 8 8] (.tup [sy [38,39],cTt]),gs (t7) [sy [38,39]] (rS 40),gs (t8) [cS 34,cS 40] (rS 41),gs (t9) [cS 41] (rS 42),gs (t10) [lc 0,lc 1] (rS 43),gs (t11) [lc (-1),lc 1] (rS 44),gs (t12) [sy [32,33]] (.r (yR 45 4)),gs (t13) [sy [38,39]] (.r (yR 49 4)),
      gsG (t14) 34 ⟨flA [[.sym 34,.sym 43],Qba 43 10],89,none⟩ [.c (.sl 0 0 3 3)] (.r (yR 53 4)),gs (t15 hS) [yR 53 4] (.tup [yR 57 16,lc 0])]
     [bLf 3 37 hz,bLf 3 42 hw,bG (yR 0 8) (yR 8 8) (Qah z) (Qah w) false ((fI hne).trans Qdk.symm)] [] ((Kiz (Kfq (Qmv (Qmw (Qmx (Qmp (Kfr (Knd .nil)))))))):FnsOk prog _) 1 3 func26 eo26 2000 [lc 2,yR 0 8,yR 8 8] (.tup [yR 57 16,lc 0])
def Kjw(z w:QC) :Kpy z w=Qel z w:=by
 simp only[Kpy,Qel,Qem,Qen,Qhc,up0,up1,up2,up3,det3]<;>grind
def Kjx(z w:QC) :Kpz z w=Qem z w:=by
 simp only[Kpz,Qel,Qem,Qen,Qhc,up0,up1,up2,up3,det3]<;>grind
def Kjy(z w:QC) :Kqa z w=Qen z w:=by
 simp only[Kqa,Qel,Qem,Qen,Qhc,up0,up1,up2,up3,det3]<;>grind
def Kjz(z w:QC) :Kqb z w=Qhc z w:=by
 simp only[Kqb,Qel,Qem,Qen,Qhc,up0,up1,up2,up3,det3]<;>grind
def Unp(z w:QC)(b_z:Qac z)(b_w:Qac w)(hz:hN2 z)(hw:hN2 w)(hne:¬(z=w))(hS:Qno (Qel z w) (Qem z w) (Qen z w) (Qhc z w)):SCt 26 [gIi 2,.row ((Qah z).cells),.row ((Qah w).cells)] (.tup [.row (Qsj (Qel z w) (Qem z w) (Qen z w) (Qhc z w)),gIi 0]):=by
 have k_:=Uva z w b_z b_w hz hw hne (by simp only[Kjw z w ,Kjx z w ,Kjy z w ,Kjz z w ];exact hS);simp only[Kjw z w ,Kjx z w ,Kjy z w ,Kjz z w ] at k_;exact k_
