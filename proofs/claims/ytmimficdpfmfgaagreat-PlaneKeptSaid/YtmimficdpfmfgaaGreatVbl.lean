/- Laws for the walk. -/
import Derived.Test.YtmimficdpfmfgaaGreatVbk
set_option linter.unusedVariables false
set_option linter.unusedSimpArgs false
set_option maxHeartbeats 4000000
set_option maxRecDepth 100000
namespace Go.Proofs.YtmimficdpfmfgaaGreat
open Go.RowKit Tr
open Classical
def wq75(z w:QC):Rat:=up0 (1:Rat) (0:Rat) (0:Rat) (1:Rat) (-z.re) z.im (1:Rat) (-w.re) w.im
theorem wq75_b0(z w:QC)(b_z:Qab z)(b_w:Qab w):RL (wq75 z w) 163960:=(pl_up_b0_1' (1:Rat) (0:Rat) (0:Rat) (-1:Rat) (1:Rat) (-z.re) z.im (nm z) (1:Rat) (-w.re) w.im (nm w) (ri 1) (ri 0) (ri 0) (ri (-1)) (ri 1) ((Qdi ((Qaa b_z).1)).mn) (((Qaa b_z).2).mn) (Qbz (Qaa b_z)) (ri 1) ((Qdi ((Qaa b_w).1)).mn) (((Qaa b_w).2).mn) (Qbz (Qaa b_w))).mn
def wq76(z w:QC):Rat:=up1 (1:Rat) (0:Rat) (-1:Rat) (1:Rat) z.im (nm z) (1:Rat) w.im (nm w)
theorem wq76_b0(z w:QC)(b_z:Qab z)(b_w:Qab w):RL (wq76 z w) 196762:=(pl_up_b0_2' (1:Rat) (0:Rat) (0:Rat) (-1:Rat) (1:Rat) (-z.re) z.im (nm z) (1:Rat) (-w.re) w.im (nm w) (ri 1) (ri 0) (ri 0) (ri (-1)) (ri 1) ((Qdi ((Qaa b_z).1)).mn) (((Qaa b_z).2).mn) (Qbz (Qaa b_z)) (ri 1) ((Qdi ((Qaa b_w).1)).mn) (((Qaa b_w).2).mn) (Qbz (Qaa b_w))).mn
def wq77(z w:QC):Rat:=up2 (1:Rat) (0:Rat) (-1:Rat) (1:Rat) (-z.re) (nm z) (1:Rat) (-w.re) (nm w)
theorem wq77_b0(z w:QC)(b_z:Qab z)(b_w:Qab w):RL (wq77 z w) 196762:=(pl_up_b0_3' (1:Rat) (0:Rat) (0:Rat) (-1:Rat) (1:Rat) (-z.re) z.im (nm z) (1:Rat) (-w.re) w.im (nm w) (ri 1) (ri 0) (ri 0) (ri (-1)) (ri 1) ((Qdi ((Qaa b_z).1)).mn) (((Qaa b_z).2).mn) (Qbz (Qaa b_z)) (ri 1) ((Qdi ((Qaa b_w).1)).mn) (((Qaa b_w).2).mn) (Qbz (Qaa b_w))).mn
def wq78(z w:QC):Rat:=up3 (0:Rat) (0:Rat) (-1:Rat) (-z.re) z.im (nm z) (-w.re) w.im (nm w)
theorem wq78_b0(z w:QC)(b_z:Qab z)(b_w:Qab w):RL (wq78 z w) 163960:=(pl_up_b0_4' (1:Rat) (0:Rat) (0:Rat) (-1:Rat) (1:Rat) (-z.re) z.im (nm z) (1:Rat) (-w.re) w.im (nm w) (ri 1) (ri 0) (ri 0) (ri (-1)) (ri 1) ((Qdi ((Qaa b_z).1)).mn) (((Qaa b_z).2).mn) (Qbz (Qaa b_z)) (ri 1) ((Qdi ((Qaa b_w).1)).mn) (((Qaa b_w).2).mn) (Qbz (Qaa b_w))).mn
theorem lin2_p(z w:QC)(hz:hN2 z)(hw:hN2 w)(hne:¬(z=w)):0<prodF (wq75 z w) (wq76 z w) (wq77 z w) (wq78 z w) (wq75 z w) (wq76 z w) (wq77 z w) (wq78 z w):=by
 rw[show(wq75 z w)=Qdy z w from by simp only[wq75,Qdy,up0,up1,up2,up3,det3]<;>grind,show(wq76 z w)=Qet z w from by simp only[wq76,Qet,up0,up1,up2,up3,det3]<;>grind,show(wq77 z w)=Qeu z w from by simp only[wq77,Qeu,up0,up1,up2,up3,det3]<;>grind,show(wq78 z w)=Qiu z w from by simp only[wq78,Qiu,up0,up1,up2,up3,det3]<;>grind]; exact linP2 (Qen hz) (Qen hw) hne
theorem pLin2(z w:QC)(b_z:Qab z)(b_w:Qab w)(hz:hN2 z)(hw:hN2 w)(hne:¬(z=w)):SCt 38 [gIi 2,.row ((Qad z).cells),.row ((Qad w).cells)] (if CirS (wq75 z w) (wq76 z w) (wq77 z w) (wq78 z w) then .tup [.row (cirF (wq75 z w) (wq76 z w) (wq77 z w) (wq78 z w)),gIi 0] else .tup [.row (zGG++zGG),gIi 4]) :=
  have t1:=pGInt 0 1 (by decide) (by decide) (by decide) (by decide)
  have t2:=pGInt 0 0 (by decide) (by decide) (by decide) (by decide)
  have t3:=pnr 1
  have t4:=Qea z ((Qaa b_z).mn)
  have t5:=Qda (1:Rat) (nm z) (ri 1) ((Qbz (Qaa b_z)).mn)
  have t6:=Qau ((1:Rat) - (nm z))
  have t7:=Qea w ((Qaa b_w).mn)
  have t8:=Qda (1:Rat) (nm w) (ri 1) ((Qbz (Qaa b_w)).mn)
  have t9:=Qau ((1:Rat) - (nm w))
  have t10:=pnr 0
  have t11:=pnr (-1)
  have t12:=pl_spot z ((Qaa b_z).mn)
  have t13:=pl_spot w ((Qaa b_w).mn)
  have t14:=pl_up' (1:Rat) (0:Rat) (0:Rat) (-1:Rat) (1:Rat) (-z.re) z.im (nm z) (1:Rat) (-w.re) w.im (nm w) (ri 1) (ri 0) (ri 0) (ri (-1)) (ri 1) ((Qdi ((Qaa b_z).1)).mn) (((Qaa b_z).2).mn) ((Qbz (Qaa b_z)).mn) (ri 1) ((Qdi ((Qaa b_w).1)).mn) (((Qaa b_w).2).mn) ((Qbz (Qaa b_w)).mn)
  have t15:=pCirc (wq75 z w) (wq76 z w) (wq77 z w) (wq78 z w) ((wq75_b0 z w b_z b_w).mn) ((wq76_b0 z w b_z b_w).mn) ((wq77_b0 z w b_z b_w).mn) ((wq78_b0 z w b_z b_w).mn) (by_ne (lin2_p z w hz hw hne))
  (Classical.em (CirS (wq75 z w) (wq76 z w) (wq77 z w) (wq78 z w))).elim (fun h0 => .it h0 (Qba (L := [(Qad z).cells,(Qad w).cells,(Qad (⟨0,1⟩ : QC)).cells,(Qad (⟨0,0⟩ : QC)).cells,cn z,[gr (1 : Rat)],[gr (nm z)],[gr ((1 : Rat) - (nm z))],[gxi (((1 : Rat) - (nm z)).num.sign)],cn w,[gr (nm w)],[gr ((1 : Rat) - (nm w))],[gxi (((1 : Rat) - (nm w)).num.sign)],[gr (0 : Rat)],[gr (-1 : Rat)],[gr (1 : Rat)],[gr (-z.re)],[gr z.im],[gr (nm z)],[gr (1 : Rat)],[gr (-w.re)],[gr w.im],[gr (nm w)],[gr (wq75 z w)],[gr (wq76 z w)],[gr (wq77 z w)],[gr (wq78 z w)],cirF (wq75 z w) (wq76 z w) (wq77 z w) (wq78 z w)].flatten) Qae Qai
     [gs (t1) [lc 0,lc 1] (.r (yR 16 8)),gs (t2) [lc 0,lc 0] (.r (yR 24 8)),gs (Qej z b_z) [yR 0 8] (.tup [sy [32,33],cTt]),gs (t3) [lc 1,lc 1] (rS 34),gs (t4) [sy [32,33]] (rS 35),gs (t5) [cS 34,cS 35] (rS 36),gs (t6) [cS 36] (rS 37),gs (Qej w b_w) [yR 8 8] (.tup [sy [38,39],cTt]),gs (t7) [sy [38,39]] (rS 40),gs (t8) [cS 34,cS 40] (rS 41),gs (t9) [cS 41] (rS 42),gs (t10) [lc 0,lc 1] (rS 43),gs (t11) [lc (-1),lc 1] (rS 44),gs (t12) [sy [32,33]] (.r (yR 45 4)),gs (t13) [sy [38,39]] (.r (yR 49 4)),
      gsG (t14) 34 ⟨flA [[.sym 34,.sym 43],Qaj 43 10],143,none⟩ [.c (.sl 0 0 3 3)] (.r (yR 53 4)),gs (t15.t h0) [yR 53 4] (.tup [yR 57 16,lc 0])]
     [bLf 3 37 hz,bLf 3 42 hw,bG (yR 0 8) (yR 8 8) (Qad z) (Qad w) false ((fI hne).trans Qcr.symm)] [] ((Qhq (fs70 (Qha (Qhb (Qhc (fs81 (Qgz (fs99 .nil)))))))):FnsOk Tryz.prog _) 1 3 Tryz.func38 eo38 2000 [lc 2,yR 0 8,yR 8 8] (.tup [yR 57 16,lc 0])))
   (fun h0=>.ie (fun h=>h0 h) (Qba (L:=[(Qad z).cells,(Qad w).cells,(Qad (⟨0,1⟩:QC)).cells,(Qad (⟨0,0⟩:QC)).cells,cn z,[gr (1:Rat)],[gr (nm z)],[gr ((1:Rat) - (nm z))],[gxi (((1:Rat) - (nm z)).num.sign)],cn w,[gr (nm w)],[gr ((1:Rat) - (nm w))],[gxi (((1:Rat) - (nm w)).num.sign)],[gr (0:Rat)],[gr (-1:Rat)],[gr (1:Rat)],[gr (-z.re)],[gr z.im],[gr (nm z)],[gr (1:Rat)],[gr (-w.re)],[gr w.im],[gr (nm w)],[gr (wq75 z w)],[gr (wq76 z w)],[gr (wq77 z w)],[gr (wq78 z w)]].flatten) Qae Qai
     [gs (t1) [lc 0,lc 1] (.r (yR 16 8)),gs (t2) [lc 0,lc 0] (.r (yR 24 8)),gs (Qej z b_z) [yR 0 8] (.tup [sy [32,33],cTt]),gs (t3) [lc 1,lc 1] (rS 34),gs (t4) [sy [32,33]] (rS 35),gs (t5) [cS 34,cS 35] (rS 36),gs (t6) [cS 36] (rS 37),gs (Qej w b_w) [yR 8 8] (.tup [sy [38,39],cTt]),gs (t7) [sy [38,39]] (rS 40),gs (t8) [cS 34,cS 40] (rS 41),gs (t9) [cS 41] (rS 42),gs (t10) [lc 0,lc 1] (rS 43),gs (t11) [lc (-1),lc 1] (rS 44),gs (t12) [sy [32,33]] (.r (yR 45 4)),gs (t13) [sy [38,39]] (.r (yR 49 4)),
      gsG (t14) 34 ⟨flA [[.sym 34,.sym 43],Qaj 43 10],143,none⟩ [.c (.sl 0 0 3 3)] (.r (yR 53 4)),gs (t15.f h0) [yR 53 4] (.tup [.row (flA [zGA,zGA]),lc 4])]
     [bLf 3 37 hz,bLf 3 42 hw,bG (yR 0 8) (yR 8 8) (Qad z) (Qad w) false ((fI hne).trans Qcr.symm)] [] ((Qhq (fs70 (Qha (Qhb (Qhc (fs81 (Qgz (fs99 .nil)))))))):FnsOk Tryz.prog _) 1 3 Tryz.func38 eo38 2000 [lc 2,yR 0 8,yR 8 8] (.tup [.row (flA [zGA,zGA]),lc 4])))
theorem pLin2_q0(z w:QC) :wq75 z w=Qdy z w:=by
 simp only[wq75,Qdy,Qet,Qeu,Qiu,up0,up1,up2,up3,det3]<;>grind
theorem pLin2_q1(z w:QC) :wq76 z w=Qet z w:=by
 simp only[wq76,Qdy,Qet,Qeu,Qiu,up0,up1,up2,up3,det3]<;>grind
theorem pLin2_q2(z w:QC) :wq77 z w=Qeu z w:=by
 simp only[wq77,Qdy,Qet,Qeu,Qiu,up0,up1,up2,up3,det3]<;>grind
theorem pLin2_q3(z w:QC) :wq78 z w=Qiu z w:=by
 simp only[wq78,Qdy,Qet,Qeu,Qiu,up0,up1,up2,up3,det3]<;>grind
theorem pLin2'(z w:QC)(b_z:Qab z)(b_w:Qab w)(hz:hN2 z)(hw:hN2 w)(hne:¬(z=w)):SCt 38 [gIi 2,.row ((Qad z).cells),.row ((Qad w).cells)] (if CirS (Qdy z w) (Qet z w) (Qeu z w) (Qiu z w) then .tup [.row (cirF (Qdy z w) (Qet z w) (Qeu z w) (Qiu z w)),gIi 0] else .tup [.row (zGG++zGG),gIi 4]):=by
 have k_:=pLin2 z w b_z b_w hz hw hne
 simp only[pLin2_q0 z w ,pLin2_q1 z w ,pLin2_q2 z w ,pLin2_q3 z w ] at k_
 exact k_
end Go.Proofs.YtmimficdpfmfgaaGreat
namespace Go.Proofs.YtmimficdpfmfgaaGreat
open Go.RowKit Tr
open Classical
theorem lin1_eq(u v:QC):Qew u v=(v.re - u.re)*(1 / 2)∧Qes u v=(nm u - nm v)*(1 / 4)∧Qgo u v=0∧Qfs u v=(u.re*nm v - v.re*nm u)*(1 / 2):=by
 simp only[Qew,Qes,Qgo,Qfs,up0,up1,up2,up3,det3]
 refine⟨?_,?_,?_,?_⟩<;>grind
theorem lin2_eq(u v:QC):Qdy u v=(u.re*v.im - u.im*v.re)*(1 / 2)∧Qet u v=(u.im*(1+nm v) - v.im*(1+nm u))*(1 / 4)∧Qeu u v=(u.re*(1+nm v) - v.re*(1+nm u))*(1 / 4)∧Qiu u v=Qdy u v:=by
 simp only[Qdy,Qet,Qeu,Qiu,up0,up1,up2,up3,det3]
 refine⟨?_,?_,?_,?_⟩<;>grind
theorem bhalf:BQ (1 / 2:Rat) 1 2:=⟨1,2,by decide,by decide,by decide,by decide +kernel⟩
theorem bquart:BQ (1 / 4:Rat) 1 3:=⟨1,4,by decide,by decide,by decide,by decide +kernel⟩
section
variable{u v:QC}(b1:BQ u.re 40 40)(b2:BQ u.im 40 40)(b3:BQ v.re 40 40)(b4:BQ v.im 40 40)
include b1 b2 b3 b4
theorem cz_of:CZ u 80 80∧CZ v 80 80:=⟨CZ.of b1 b2 (by omega) (by omega),CZ.of b3 b4 (by omega) (by omega)⟩
theorem lin1_b:BQ (Qew u v) 410 410∧BQ (Qes u v) 410 410∧BQ (Qfs u v) 410 410:=by
 obtain⟨e1,e2,_,e4⟩:=lin1_eq u v
 have⟨cu,cv⟩:=cz_of b1 b2 b3 b4
 have nu:=BQ.nm cu
 have nv:=BQ.nm cv
 rw[e1,e2,e4]
 exact⟨((b3.sub b1 (r:=81) (by omega) (by omega)).mul bhalf).mn (by omega),((nu.sub nv (r:=322) (by omega) (by omega)).mul bquart).mn (by omega),(((b1.mul nv).sub (b3.mul nu) (r:=402) (by omega) (by omega)).mul bhalf).mn (by omega)⟩
theorem lin2_b:BQ (Qdy u v) 410 410∧BQ (Qet u v) 410 410∧BQ (Qeu u v) 410 410:=by
 obtain⟨e1,e2,e3,_⟩:=lin2_eq u v
 have⟨cu,cv⟩:=cz_of b1 b2 b3 b4
 have one:BQ (1:Rat) 1 1:=BQ.int 1 1 (by decide)
 have nu:=one.add (BQ.nm cu) (r:=163) (by omega) (by omega)
 have nv:=one.add (BQ.nm cv) (r:=163) (by omega) (by omega)
 rw[e1,e2,e3]
 exact⟨(((b1.mul b4).sub (b2.mul b3) (r:=161) (by omega) (by omega)).mul bhalf).mn (by omega),(((b2.mul nv).sub (b4.mul nu) (r:=405) (by omega) (by omega)).mul bquart).mn (by omega),(((b1.mul nv).sub (b3.mul nu) (r:=405) (by omega) (by omega)).mul bquart).mn (by omega)⟩
end
theorem prod_eq(a b e d:Rat):prodF a b e d a b e d=b*b+e*e - a*d:=by unfold prodF; grind
theorem bzero(n:Nat)(h:0<n):BQ (0:Rat) n n:=(BQ.int 0 n (by simp; exact Nat.pow_pos (by decide))).mono (Nat.le_refl _) h
theorem cir_short{f0 f1 f2 f3:Rat}(h0:BQ f0 410 410)(h1:BQ f1 410 410)(h2:BQ f2 410 410)(h3:BQ f3 410 410)(hb:byF f0 f1 f2≠0):CirS f0 f1 f2 f3:=by
 have b:BQ (byF f0 f1 f2) 410 410:=by unfold byF; split; split; exact h2; exact h1; exact h0
 exact⟨(h0.div b hb).short (by omega) (by omega),(h1.div b hb).short (by omega) (by omega),(h2.div b hb).short (by omega) (by omega),(h3.div b hb).short (by omega) (by omega)⟩
theorem rf_sc{f0 f1 f2 f3 k:Rat}{z:QC}(hk:k≠0)(h:rfD f0 f1 f2 f3 z≠⟨0,0⟩):rfD (f0 / k) (f1 / k) (f2 / k) (f3 / k) z≠⟨0,0⟩∧rfN (f0 / k) (f1 / k) (f2 / k) (f3 / k) z / rfD (f0 / k) (f1 / k) (f2 / k) (f3 / k) z=rfN f0 f1 f2 f3 z / rfD f0 f1 f2 f3 z:=by
 have e1:rfN (f0 / k) (f1 / k) (f2 / k) (f3 / k) z=(⟨k⁻¹,0⟩:QC)*rfN f0 f1 f2 f3 z:=by
  unfold rfN cj; apply Qbv<;>simp only[qmr,qmi,qsr,qsi,Rat.div_def]<;>grind
 have e2:rfD (f0 / k) (f1 / k) (f2 / k) (f3 / k) z=(⟨k⁻¹,0⟩:QC)*rfD f0 f1 f2 f3 z:=by
  unfold rfD; apply Qbv<;>simp only[qmr,qmi,qar,qai,Rat.div_def]<;>grind
 have hs:(⟨k⁻¹,0⟩:QC)≠⟨0,0⟩:=fun e=>by
  have e0:k⁻¹=0:=congrArg QC.re e
  have:=Rat.mul_inv_cancel k hk
  rw[e0] at this
  grind
 rw[e1,e2]
 exact⟨mul_ne hs h,sc_div hs h⟩
theorem rf_b{a b e d:Rat}{z:QC}(ha:BQ a 410 410)(hb:BQ b 410 410)(he:BQ e 410 410)(hd:BQ d 410 410)(hz:CZ z 80 80)(h:rfD a b e d z≠⟨0,0⟩):Qab (rfN a b e d z / rfD a b e d z):=by
 have be:CZ (⟨b,e⟩:QC) 820 820:=(CZ.of hb he (r:=820) (by omega) (by omega)).mn (by omega)
 have dd:CZ (⟨d,0⟩:QC) 820 820:=(CZ.of hd (bzero 410 (by omega)) (r:=820) (by omega) (by omega)).mn (by omega)
 have n:CZ (rfN a b e d z) 1730 1730:=((be.cj.neg0.mul hz.cj).sub dd (r:=1730) (by omega) (by omega)).mn (by omega)
 have az:CZ (⟨a*z.re,-(a*z.im)⟩:QC) 490 490:=(hz.scale ha).cj.mn (by omega)
 have q:CZ (rfD a b e d z) 1320 1320:=(az.add be (r:=1320) (by omega) (by omega)).mn (by omega)
 exact(n.div q h).short (by omega) (by omega)
section
variable{u v z:QC}(b1:BQ u.re 40 40)(b2:BQ u.im 40 40)(b3:BQ v.re 40 40)(b4:BQ v.im 40 40)(bz:CZ z 80 80)(sz:Qab z)
include b1 b2 b3 b4
theorem lin1_sh(hu:0<u.im)(hv:0<v.im)(hne:¬u=v):CirS (Qew u v) (Qes u v) (Qgo u v) (Qfs u v):=by
 obtain⟨h0,h1,h3⟩:=lin1_b b1 b2 b3 b4
 have h2:BQ (Qgo u v) 410 410:=by rw[(lin1_eq u v).2.2.1]; exact bzero 410 (by omega)
 exact cir_short h0 h1 h2 h3 (by_ne (linP1 hu hv hne))
theorem lin2_sh(hu:0<1 - nm u)(hv:0<1 - nm v)(hne:¬u=v):CirS (Qdy u v) (Qet u v) (Qeu u v) (Qiu u v):=by
 obtain⟨h0,h1,h2⟩:=lin2_b b1 b2 b3 b4
 have h3:BQ (Qiu u v) 410 410:=by rw[(lin2_eq u v).2.2.2]; exact h0
 exact cir_short h0 h1 h2 h3 (by_ne (linP2 hu hv hne))
include bz sz
theorem ov1(hu:0<u.im)(hv:0<v.im)(hne:¬u=v)(hz:hN1 z):SCt 24 [gIi 1,.row (cirF (Qew u v) (Qes u v) (Qgo u v) (Qfs u v)),.row (Qad z).cells] (.tup [.row (Qad (rfN (Qew u v) (Qes u v) 0 (Qfs u v) z / rfD (Qew u v) (Qes u v) 0 (Qfs u v) z)).cells,gIi 0]):=by
 obtain⟨h0,h1,h3⟩:=lin1_b b1 b2 b3 b4
 have hp:=linP1 hu hv hne
 have S:=lin1_sh b1 b2 b3 b4 hu hv hne
 have c0:=(lin1_eq u v).2.2.1
 rw[c0] at hp S ⊢
 rw[prod_eq] at hp
 generalize Qew u v=a at *
 generalize Qes u v=b at *
 generalize Qfs u v=d at *
 have hp':0<b*b - a*d:=by grind
 have nd:=(over1_keeps hp' (Qen hz) (Qen hz)).2.1
 have sh:=rf_b h0 h1 (bzero 410 (by omega)) h3 bz nd
 by_cases ha:a=0
 ·have hb:b≠0:=fun e=>by rw[ha,e] at hp; revert hp; grind
  have by0:byF a b 0=b:=by unfold byF; rw[if_pos ha,if_neg hb]
  obtain⟨k1,k2⟩:=rf_sc (f0:=a) (f1:=b) (f2:=0) (f3:=d) (z:=z) hb nd
  unfold cirF
  unfold CirS at S
  rw[by0] at S ⊢
  rw[show a / b=0 from by rw[ha]; grind,show b / b=1 from by grind,show(0:Rat) / b=0 from by grind] at *
  rw[←k2]
  exact over1B 0 (d / b) z S.2.2.1 S.2.2.2 sz hz (by grind) rfl k1 (by rw[k2]; exact sh)
 ·have by0:byF a b 0=a:=by unfold byF; rw[if_neg ha]
  obtain⟨k1,k2⟩:=rf_sc (f0:=a) (f1:=b) (f2:=0) (f3:=d) (z:=z) ha nd
  unfold cirF
  unfold CirS at S
  rw[by0] at S ⊢
  rw[show a / a=1 from by grind,show(0:Rat) / a=0 from by grind] at *
  rw[←k2]
  have q:0<(b / a)*(b / a)+0*0 - 1*(d / a):=by
   have e:(b / a)*(b / a)+0*0 - 1*(d / a)=(b*b - a*d)*(a⁻¹*a⁻¹):=by simp only[Rat.div_def]; grind
   rw[e]
   have i:a⁻¹≠0:=fun e=>by have:=Rat.mul_inv_cancel a ha; rw[e] at this; grind
   have i2:0<a⁻¹*a⁻¹:=by
    have n0:a⁻¹*a⁻¹≠0:=fun e=>(Rat.mul_eq_zero.1 e).elim i i
    have:=rsq a⁻¹
    grind
   exact Qjk hp' i2
  exact over1A (b / a) 0 (d / a) z S.2.1 S.2.2.1 S.2.2.2 sz hz q rfl k1 (by rw[k2]; exact sh)
theorem ov2(hu:0<1 - nm u)(hv:0<1 - nm v)(hne:¬u=v)(hz:hN2 z):SCt 24 [gIi 2,.row (cirF (Qdy u v) (Qet u v) (Qeu u v) (Qiu u v)),.row (Qad z).cells] (.tup [.row (Qad (rfN (Qdy u v) (Qet u v) (Qeu u v) (Qdy u v) z / rfD (Qdy u v) (Qet u v) (Qeu u v) (Qdy u v) z)).cells,gIi 0]):=by
 obtain⟨h0,h1,h2⟩:=lin2_b b1 b2 b3 b4
 have hp:=linP2 hu hv hne
 have S:=lin2_sh b1 b2 b3 b4 hu hv hne
 have c0:=(lin2_eq u v).2.2.2
 rw[c0] at hp S ⊢
 rw[prod_eq] at hp
 generalize Qdy u v=a at *
 generalize Qet u v=b at *
 generalize Qeu u v=e at *
 have nd:=(over2_keeps hp (Qen hz) (Qen hz)).2.1
 have sh:=rf_b h0 h1 h2 h0 bz nd
 by_cases ha:a=0
 ·by_cases hb:b=0
  ·have he:e≠0:=fun k=>by rw[ha,hb,k] at hp; revert hp; grind
   have by0:byF a b e=e:=by unfold byF; rw[if_pos ha,if_pos hb]
   obtain⟨k1,k2⟩:=rf_sc (f0:=a) (f1:=b) (f2:=e) (f3:=a) (z:=z) he nd
   unfold cirF
   unfold CirS at S
   rw[by0] at S ⊢
   rw[show a / e=0 from by rw[ha]; grind,show b / e=0 from by rw[hb]; grind,show e / e=1 from by grind] at *
   rw[←k2]
   exact over2C 0 z S.1 sz hz (by grind) rfl k1 (by rw[k2]; exact sh)
  ·have by0:byF a b e=b:=by unfold byF; rw[if_pos ha,if_neg hb]
   obtain⟨k1,k2⟩:=rf_sc (f0:=a) (f1:=b) (f2:=e) (f3:=a) (z:=z) hb nd
   unfold cirF
   unfold CirS at S
   rw[by0] at S ⊢
   rw[show a / b=0 from by rw[ha]; grind,show b / b=1 from by grind] at *
   rw[←k2]
   have r:=rsq (e / b)
   exact over2B (e / b) 0 z S.2.2.1 S.1 sz hz (by grind) rfl k1 (by rw[k2]; exact sh)
 ·have by0:byF a b e=a:=by unfold byF; rw[if_neg ha]
  obtain⟨k1,k2⟩:=rf_sc (f0:=a) (f1:=b) (f2:=e) (f3:=a) (z:=z) ha nd
  unfold cirF
  unfold CirS at S
  rw[by0] at S ⊢
  rw[show a / a=1 from by grind] at *
  rw[←k2]
  have q:0<(b / a)*(b / a)+(e / a)*(e / a) - 1*1:=by
   have e':(b / a)*(b / a)+(e / a)*(e / a) - 1*1=(b*b+e*e - a*a)*(a⁻¹*a⁻¹):=by
    have:=Rat.mul_inv_cancel a ha
    simp only[Rat.div_def]; grind
   rw[e']
   have i:a⁻¹≠0:=fun e=>by have:=Rat.mul_inv_cancel a ha; rw[e] at this; grind
   have i2:0<a⁻¹*a⁻¹:=by
    have n0:a⁻¹*a⁻¹≠0:=fun e=>(Rat.mul_eq_zero.1 e).elim i i
    have:=rsq a⁻¹
    grind
   exact Qjk hp i2
  exact over2A (b / a) (e / a) 1 z S.2.1 S.2.2.1 S.1 sz hz q rfl k1 (by rw[k2]; exact sh)
end
end Go.Proofs.YtmimficdpfmfgaaGreat
