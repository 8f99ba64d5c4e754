/- Laws for the walk. -/
import Derived.Test.YtmimficdpfmfgaaGreatZbk
set_option linter.unusedVariables false
set_option linter.unusedSimpArgs false
set_option maxHeartbeats 4000000
namespace Go.Proofs.YtmimficdpfmfgaaGreat
open Go.RowKit Tr
open Classical
theorem rsq(x:Rat):0≤x*x:=by
 by_cases h:0≤x
 ·exact Rat.mul_nonneg h h
 ·have h1:0≤-x:=by grind
  have h2:=Rat.mul_nonneg h1 h1
  grind
theorem nm_pos{z w:QC}(h:¬z=w):0<nm (z - w):=by
 have h0:nm (z - w)≠0:=qc_nz (fun e=>h (qc_sub0.1 e))
 have a1:=rsq (z - w).re
 have a2:=rsq (z - w).im
 have h1:0≤nm (z - w):=by unfold nm; grind
 grind
def Qdh(z w:QC):Rat:=w.im - z.im
def Qdp(z w:QC):Rat:=w.re*z.im - z.re*w.im
def Qdj(z w:QC):Rat:=z.im*w.im - w.im*z.im
def Qdd(z w:QC):Rat:=nm z*w.im - nm w*z.im
def Qdo(z w:QC):Rat:=up0 0 0 1 1 (-z.re) z.im 1 (-w.re) w.im
def Qdi(z w:QC):Rat:=up1 0 1 0 1 z.im (nm z) 1 w.im (nm w)
def Qde(z w:QC):Rat:=up2 0 0 0 1 (-z.re) (nm z) 1 (-w.re) (nm w)
def Qdc(z w:QC):Rat:=up3 0 1 0 (-z.re) z.im (nm z) (-w.re) w.im (nm w)
theorem midP1{z w:QC}(hz:0<z.im)(hw:0<w.im)(hne:¬z=w):0<Qbw (Qdh z w) (Qdp z w) (Qdj z w) (Qdd z w) (Qdh z w) (Qdp z w) (Qdj z w) (Qdd z w):=by
 have e:Qbw (Qdh z w) (Qdp z w) (Qdj z w) (Qdd z w) (Qdh z w) (Qdp z w) (Qdj z w) (Qdd z w)=z.im*w.im*nm (z - w):=by
  simp only[Qbw,Qdh,Qdp,Qdj,Qdd,up0,up1,up2,up3,Qbx,nm,qsr,qsi]; grind
 have h1:=nm_pos hne
 have h2:=mpos hz hw
 have h3:=mpos h2 h1
 have h4:=mpos h1 h1
 have h5:=mpos h1 h2
 rw[e]; grind
theorem linP1{z w:QC}(hz:0<z.im)(hw:0<w.im)(hne:¬z=w):0<Qbw (Qdo z w) (Qdi z w) (Qde z w) (Qdc z w) (Qdo z w) (Qdi z w) (Qde z w) (Qdc z w):=by
 have e:Qbw (Qdo z w) (Qdi z w) (Qde z w) (Qdc z w) (Qdo z w) (Qdi z w) (Qde z w) (Qdc z w)=(1 / 16)*nm (z - w)*(nm (z - w)+4*z.im*w.im):=by
  simp only[Qbw,Qdo,Qdi,Qde,Qdc,up0,up1,up2,up3,Qbx,nm,qsr,qsi]; grind
 have h1:=nm_pos hne
 have h2:=mpos hz hw
 have h3:=mpos h2 h1
 have h4:=mpos h1 h1
 have h5:=mpos h1 h2
 rw[e]; grind
def Qdk(z w:QC):Rat:=(1 - nm w) - (1 - nm z)
def Qdl(z w:QC):Rat:=w.re*(1 - nm z) - z.re*(1 - nm w)
def Qdm(z w:QC):Rat:=z.im*(1 - nm w) - w.im*(1 - nm z)
def Qdn(z w:QC):Rat:=nm z*(1 - nm w) - nm w*(1 - nm z)
def Qdf(z w:QC):Rat:=up0 1 0 0 1 (-z.re) z.im 1 (-w.re) w.im
def Qdb(z w:QC):Rat:=up1 1 0 (-1) 1 z.im (nm z) 1 w.im (nm w)
def Qda(z w:QC):Rat:=up2 1 0 (-1) 1 (-z.re) (nm z) 1 (-w.re) (nm w)
def Qdq(z w:QC):Rat:=up3 0 0 (-1) (-z.re) z.im (nm z) (-w.re) w.im (nm w)
theorem midP2{z w:QC}(hz:0<(1 - nm z))(hw:0<(1 - nm w))(hne:¬z=w):0<Qbw (Qdk z w) (Qdl z w) (Qdm z w) (Qdn z w) (Qdk z w) (Qdl z w) (Qdm z w) (Qdn z w):=by
 have e:Qbw (Qdk z w) (Qdl z w) (Qdm z w) (Qdn z w) (Qdk z w) (Qdl z w) (Qdm z w) (Qdn z w)=(1 - nm z)*(1 - nm w)*nm (z - w):=by
  simp only[Qbw,Qdk,Qdl,Qdm,Qdn,up0,up1,up2,up3,Qbx,nm,qsr,qsi]; grind
 have h1:=nm_pos hne
 have h2:=mpos hz hw
 have h3:=mpos h2 h1
 have h4:=mpos h1 h1
 have h5:=mpos h1 h2
 rw[e]; grind
theorem linP2{z w:QC}(hz:0<(1 - nm z))(hw:0<(1 - nm w))(hne:¬z=w):0<Qbw (Qdf z w) (Qdb z w) (Qda z w) (Qdq z w) (Qdf z w) (Qdb z w) (Qda z w) (Qdq z w):=by
 have e:Qbw (Qdf z w) (Qdb z w) (Qda z w) (Qdq z w) (Qdf z w) (Qdb z w) (Qda z w) (Qdq z w)=(1 / 16)*nm (z - w)*(nm (z - w)+(1 - nm z)*(1 - nm w)):=by
  simp only[Qbw,Qdf,Qdb,Qda,Qdq,up0,up1,up2,up3,Qbx,nm,qsr,qsi]; grind
 have h1:=nm_pos hne
 have h2:=mpos hz hw
 have h3:=mpos h2 h1
 have h4:=mpos h1 h1
 have h5:=mpos h1 h2
 rw[e]; grind
def wq48(z w:QC):Rat:=((1:Rat)*w.im) - ((1:Rat)*z.im)
theorem wq48_b0(z w:QC)(b_z:Qaf z)(b_w:Qaf w):RL (wq48 z w) 4097:=(Qaj ((1:Rat)*w.im) ((1:Rat)*z.im) (Qac (1:Rat) w.im (ri 1) (Qak w (Qaa b_w))) (Qac (1:Rat) z.im (ri 1) (Qak z (Qaa b_z)))).mn
def wq49(z w:QC):Rat:=((-z.re)*w.im) - ((-w.re)*z.im)
theorem wq49_b0(z w:QC)(b_z:Qaf z)(b_w:Qaf w):RL (wq49 z w) 4097:=(Qaj ((-z.re)*w.im) ((-w.re)*z.im) (Qac (-z.re) w.im (RL_neg ((Qaa b_z).1)) (Qak w (Qaa b_w))) (Qac (-w.re) z.im (RL_neg ((Qaa b_w).1)) (Qak z (Qaa b_z)))).mn
def wq50(z w:QC):Rat:=((nm z)*w.im) - ((nm w)*z.im)
theorem wq50_b0(z w:QC)(b_z:Qaf z)(b_w:Qaf w):RL (wq50 z w) 16389:=(Qaj ((nm z)*w.im) ((nm w)*z.im) (Qac (nm z) w.im (Qal (Qaa b_z)) ((Qak w (Qaa b_w)).mn)) (Qac (nm w) z.im (Qal (Qaa b_w)) ((Qak z (Qaa b_z)).mn))).mn
theorem mid1_p(z w:QC)(hz:¬(z.im.num.sign≤0))(hw:¬(w.im.num.sign≤0))(hne:¬(z=w)):0<Qbw (wq48 z w) (wq49 z w) ((z.im*w.im) - (w.im*z.im)) (wq50 z w) (wq48 z w) (wq49 z w) ((z.im*w.im) - (w.im*z.im)) (wq50 z w):=by
 rw[show(wq48 z w)=Qdh z w from by simp only[wq48,Qdh,up0,up1,up2,up3,Qbx]<;>grind,show(wq49 z w)=Qdp z w from by simp only[wq49,Qdp,up0,up1,up2,up3,Qbx]<;>grind,show((z.im*w.im) - (w.im*z.im))=Qdj z w from by simp only[Qdj,up0,up1,up2,up3,Qbx]<;>grind,show(wq50 z w)=Qdd z w from by simp only[wq50,Qdd,up0,up1,up2,up3,Qbx]<;>grind]; exact midP1 (Qbl hz) (Qbl hw) hne
theorem pMid1(z w:QC)(b_z:Qaf z)(b_w:Qaf w)(hz:¬(z.im.num.sign≤0))(hw:¬(w.im.num.sign≤0))(hne:¬(z=w)):Qah Tryz.prog true 39 [.c (gl (.int .i64 1)),.row ((Qae z).cells),.row ((Qae w).cells)] (if CirS (wq48 z w) (wq49 z w) ((z.im*w.im) - (w.im*z.im)) (wq50 z w) then .tup [.row (cirF (wq48 z w) (wq49 z w) ((z.im*w.im) - (w.im*z.im)) (wq50 z w)),.c (gl (.int .i64 0))] else .tup [.row (zGG++zGG),.c (gl (.int .i64 4))]) :=
  have t1:=pGInt 0 1 (by decide) (by decide) (by decide) (by decide)
  have t2:=pGInt 0 0 (by decide) (by decide) (by decide) (by decide)
  have t3:=Qaz z ((Qaa b_z).mn)
  have t4:=Qaz w ((Qaa b_w).mn)
  have t5:=Qcy z ((Qaa b_z).mn)
  have t6:=Qcy w ((Qaa b_w).mn)
  have t7:=Qao (1:Rat) w.im (ri 1) ((Qak w (Qaa b_w)).mn)
  have t8:=Qao (1:Rat) z.im (ri 1) ((Qak z (Qaa b_z)).mn)
  have t9:=Qay ((1:Rat)*w.im) ((1:Rat)*z.im) ((Qac (1:Rat) w.im (ri 1) (Qak w (Qaa b_w))).mn) ((Qac (1:Rat) z.im (ri 1) (Qak z (Qaa b_z))).mn)
  have t10:=Qao (-z.re) w.im ((RL_neg ((Qaa b_z).1)).mn) ((Qak w (Qaa b_w)).mn)
  have t11:=Qao (-w.re) z.im ((RL_neg ((Qaa b_w).1)).mn) ((Qak z (Qaa b_z)).mn)
  have t12:=Qay ((-z.re)*w.im) ((-w.re)*z.im) ((Qac (-z.re) w.im (RL_neg ((Qaa b_z).1)) (Qak w (Qaa b_w))).mn) ((Qac (-w.re) z.im (RL_neg ((Qaa b_w).1)) (Qak z (Qaa b_z))).mn)
  have t13:=Qao z.im w.im (((Qaa b_z).2).mn) ((Qak w (Qaa b_w)).mn)
  have t14:=Qao w.im z.im (((Qaa b_w).2).mn) ((Qak z (Qaa b_z)).mn)
  have t15:=Qay (z.im*w.im) (w.im*z.im) ((Qac z.im w.im ((Qaa b_z).2) (Qak w (Qaa b_w))).mn) ((Qac w.im z.im ((Qaa b_w).2) (Qak z (Qaa b_z))).mn)
  have t16:=Qao (nm z) w.im ((Qal (Qaa b_z)).mn) ((Qak w (Qaa b_w)).mn)
  have t17:=Qao (nm w) z.im ((Qal (Qaa b_w)).mn) ((Qak z (Qaa b_z)).mn)
  have t18:=Qay ((nm z)*w.im) ((nm w)*z.im) ((Qac (nm z) w.im (Qal (Qaa b_z)) ((Qak w (Qaa b_w)).mn)).mn) ((Qac (nm w) z.im (Qal (Qaa b_w)) ((Qak z (Qaa b_z)).mn)).mn)
  have t19:=pCirc (wq48 z w) (wq49 z w) ((z.im*w.im) - (w.im*z.im)) (wq50 z w) ((wq48_b0 z w b_z b_w).mn) ((wq49_b0 z w b_z b_w).mn) ((Qaj (z.im*w.im) (w.im*z.im) (Qac z.im w.im ((Qaa b_z).2) (Qak w (Qaa b_w))) (Qac w.im z.im ((Qaa b_w).2) (Qak z (Qaa b_z)))).mn) ((wq50_b0 z w b_z b_w).mn) (by_ne (mid1_p z w hz hw hne))
  (Classical.em (CirS (wq48 z w) (wq49 z w) ((z.im * w.im) - (w.im * z.im)) (wq50 z w))).elim (fun h0 => .it h0 (Qas (L := [(Qae z).cells,(Qae w).cells,(Qae (⟨0,1⟩ : QC)).cells,(Qae (⟨0,0⟩ : QC)).cells,cn z,[gr z.re],[gr z.im],[gx (.int .i64 z.im.num.sign)],cn w,[gr w.re],[gr w.im],[gx (.int .i64 w.im.num.sign)],[gr (1 : Rat)],[gr (-z.re)],[gr z.im],[gr (nm z)],[gr (1 : Rat)],[gr (-w.re)],[gr w.im],[gr (nm w)],[gr ((1 : Rat) * w.im)],[gr ((1 : Rat) * z.im)],[gr (wq48 z w)],[gr ((-z.re) * w.im)],[gr ((-w.re) * z.im)],[gr (wq49 z w)],[gr (z.im * w.im)],[gr (w.im * z.im)],[gr ((z.im * w.im) - (w.im * z.im))],[gr ((nm z) * w.im)],[gr ((nm w) * z.im)],[gr (wq50 z w)],cirF (wq48 z w) (wq49 z w) ((z.im * w.im) - (w.im * z.im)) (wq50 z w)].flatten) tys_ok mixed
     [gs (t1) [lc 0,lc 1] (.r (.row (Qab 16 8))),gs (t2) [lc 0,lc 0] (.r (.row (Qab 24 8))),gs (Qbm z b_z) [.row (Qab 0 8)] (.tup [sy [32,33],.c (.lit (.bool true))]),gs (t3) [sy [32,33]] (.tup [cS 34,cS 35]),gs (Qan z.im) [cS 35] (rS 36),gs (Qbm w b_w) [.row (Qab 8 8)] (.tup [sy [37,38],.c (.lit (.bool true))]),gs (t4) [sy [37,38]] (.tup [cS 39,cS 40]),gs (Qan w.im) [cS 40] (rS 41),gs (t5) [sy [32,33]] (.r (.row (Qab 42 4))),gs (t6) [sy [37,38]] (.r (.row (Qab 46 4))),gs (t7) [cS 42,cS 40] (rS 50),gs (t8) [cS 46,cS 35] (rS 51),gs (t9) [cS 50,cS 51] (rS 52),gs (t10) [cS 43,cS 40] (rS 53),gs (t11) [cS 47,cS 35] (rS 54),gs (t12) [cS 53,cS 54] (rS 55),gs (t13) [cS 44,cS 40] (rS 56),gs (t14) [cS 48,cS 35] (rS 57),gs (t15) [cS 56,cS 57] (rS 58),gs (t16) [cS 45,cS 40] (rS 59),gs (t17) [cS 49,cS 35] (rS 60),gs (t18) [cS 59,cS 60] (rS 61),gs (t19.t h0) [.row [.sym 52,.sym 55,.sym 58,.sym 61]] (.tup [.row (Qab 62 16),lc 0])]
     [bI .leq 3 (.sym 36) (li 0) z.im.num.sign 0 false (cbF hz),bI .leq 3 (.sym 41) (li 0) w.im.num.sign 0 false (cbF hw),bG (.row (Qab 0 8)) (.row (Qab 8 8)) (Qae z) (Qae w) false ((fI hne).trans Qbp.symm)] [] ((Qbu (Qdz (Qbv (Qbs (Qbr (Qdy (Qbt (fs99 .nil)))))))):FnsOk Tryz.prog _) 1 3 Tryz.func39 eo39 2000 [lc 1,.row (Qab 0 8),.row (Qab 8 8)] (.tup [.row (Qab 62 16),lc 0])))
   (fun h0=>.ie (fun h=>h0 h) (Qas (L:=[(Qae z).cells,(Qae w).cells,(Qae (⟨0,1⟩:QC)).cells,(Qae (⟨0,0⟩:QC)).cells,cn z,[gr z.re],[gr z.im],[gx (.int .i64 z.im.num.sign)],cn w,[gr w.re],[gr w.im],[gx (.int .i64 w.im.num.sign)],[gr (1:Rat)],[gr (-z.re)],[gr z.im],[gr (nm z)],[gr (1:Rat)],[gr (-w.re)],[gr w.im],[gr (nm w)],[gr ((1:Rat)*w.im)],[gr ((1:Rat)*z.im)],[gr (wq48 z w)],[gr ((-z.re)*w.im)],[gr ((-w.re)*z.im)],[gr (wq49 z w)],[gr (z.im*w.im)],[gr (w.im*z.im)],[gr ((z.im*w.im) - (w.im*z.im))],[gr ((nm z)*w.im)],[gr ((nm w)*z.im)],[gr (wq50 z w)]].flatten) tys_ok mixed
     [gs (t1) [lc 0,lc 1] (.r (.row (Qab 16 8))),gs (t2) [lc 0,lc 0] (.r (.row (Qab 24 8))),gs (Qbm z b_z) [.row (Qab 0 8)] (.tup [sy [32,33],.c (.lit (.bool true))]),gs (t3) [sy [32,33]] (.tup [cS 34,cS 35]),gs (Qan z.im) [cS 35] (rS 36),gs (Qbm w b_w) [.row (Qab 8 8)] (.tup [sy [37,38],.c (.lit (.bool true))]),gs (t4) [sy [37,38]] (.tup [cS 39,cS 40]),gs (Qan w.im) [cS 40] (rS 41),gs (t5) [sy [32,33]] (.r (.row (Qab 42 4))),gs (t6) [sy [37,38]] (.r (.row (Qab 46 4))),gs (t7) [cS 42,cS 40] (rS 50),gs (t8) [cS 46,cS 35] (rS 51),gs (t9) [cS 50,cS 51] (rS 52),gs (t10) [cS 43,cS 40] (rS 53),gs (t11) [cS 47,cS 35] (rS 54),gs (t12) [cS 53,cS 54] (rS 55),gs (t13) [cS 44,cS 40] (rS 56),gs (t14) [cS 48,cS 35] (rS 57),gs (t15) [cS 56,cS 57] (rS 58),gs (t16) [cS 45,cS 40] (rS 59),gs (t17) [cS 49,cS 35] (rS 60),gs (t18) [cS 59,cS 60] (rS 61),gs (t19.f h0) [.row [.sym 52,.sym 55,.sym 58,.sym 61]] (.tup [.row (flA [zGA,zGA]),lc 4])]
     [bI .leq 3 (.sym 36) (li 0) z.im.num.sign 0 false (cbF hz),bI .leq 3 (.sym 41) (li 0) w.im.num.sign 0 false (cbF hw),bG (.row (Qab 0 8)) (.row (Qab 8 8)) (Qae z) (Qae w) false ((fI hne).trans Qbp.symm)] [] ((Qbu (Qdz (Qbv (Qbs (Qbr (Qdy (Qbt (fs99 .nil)))))))):FnsOk Tryz.prog _) 1 3 Tryz.func39 eo39 2000 [lc 1,.row (Qab 0 8),.row (Qab 8 8)] (.tup [.row (flA [zGA,zGA]),lc 4])))
theorem pMid1_q0(z w:QC) :wq48 z w=Qdh z w:=by
 simp only[wq48,Qdh,Qdp,Qdj,Qdd,up0,up1,up2,up3,Qbx]<;>grind
theorem pMid1_q1(z w:QC) :wq49 z w=Qdp z w:=by
 simp only[wq49,Qdh,Qdp,Qdj,Qdd,up0,up1,up2,up3,Qbx]<;>grind
theorem pMid1_q2(z w:QC) :(z.im*w.im) - (w.im*z.im)=Qdj z w:=by
 simp only[Qdh,Qdp,Qdj,Qdd,up0,up1,up2,up3,Qbx]<;>grind
theorem pMid1_q3(z w:QC) :wq50 z w=Qdd z w:=by
 simp only[wq50,Qdh,Qdp,Qdj,Qdd,up0,up1,up2,up3,Qbx]<;>grind
theorem pMid1'(z w:QC)(b_z:Qaf z)(b_w:Qaf w)(hz:¬(z.im.num.sign≤0))(hw:¬(w.im.num.sign≤0))(hne:¬(z=w)):Qah Tryz.prog true 39 [.c (gl (.int .i64 1)),.row ((Qae z).cells),.row ((Qae w).cells)] (if CirS (Qdh z w) (Qdp z w) (Qdj z w) (Qdd z w) then .tup [.row (cirF (Qdh z w) (Qdp z w) (Qdj z w) (Qdd z w)),.c (gl (.int .i64 0))] else .tup [.row (zGG++zGG),.c (gl (.int .i64 4))]):=by
 have k_:=pMid1 z w b_z b_w hz hw hne
 simp only[pMid1_q0 z w ,pMid1_q1 z w ,pMid1_q2 z w ,pMid1_q3 z w ] at k_
 exact k_
def wq51(z w:QC):Rat:=(w.im*(1:Rat))+((-z.im)*(1:Rat))
theorem wq51_b0(z w:QC){k:Nat}(b_z:ZL z k)(b_w:ZL w k):RL (wq51 z w) (2*k+5):=(RL_add (RL_mul b_w.2 (rj 1)) (RL_mul (RL_neg b_z.2) (rj 1))).mn
def wq52(z w:QC):Rat:=(w.im*(-z.re))+((-z.im)*(-w.re))
theorem wq52_b0(z w:QC){k:Nat}(b_z:ZL z k)(b_w:ZL w k):RL (wq52 z w) (4*k+1):=(RL_add (RL_mul b_w.2 (RL_neg b_z.1)) (RL_mul (RL_neg b_z.2) (RL_neg b_w.1))).mn
def wq53(z w:QC):Rat:=(w.im*z.im)+((-z.im)*w.im)
theorem wq53_b0(z w:QC){k:Nat}(b_z:ZL z k)(b_w:ZL w k):RL (wq53 z w) (4*k+1):=(RL_add (RL_mul b_w.2 b_z.2) (RL_mul (RL_neg b_z.2) b_w.2)).mn
def wq54(z w:QC):Rat:=(w.im*(nm z))+((-z.im)*(nm w))
theorem wq54_b0(z w:QC){k:Nat}(b_z:ZL z k)(b_w:ZL w k):RL (wq54 z w) (10*k+3):=(RL_add (RL_mul b_w.2 (Qal b_z)) (RL_mul (RL_neg b_z.2) (Qal b_w))).mn
theorem mid1_d(z w:QC)(hz:¬(z.im.num.sign≤0))(hw:¬(w.im.num.sign≤0))(hne:¬(z=w)):0<Qbw (wq51 z w) (wq52 z w) (wq53 z w) (wq54 z w) (wq51 z w) (wq52 z w) (wq53 z w) (wq54 z w):=by
 rw[show(wq51 z w)=Qdh z w from by simp only[wq51,Qdh,up0,up1,up2,up3,Qbx]<;>grind,show(wq52 z w)=Qdp z w from by simp only[wq52,Qdp,up0,up1,up2,up3,Qbx]<;>grind,show(wq53 z w)=Qdj z w from by simp only[wq53,Qdj,up0,up1,up2,up3,Qbx]<;>grind,show(wq54 z w)=Qdd z w from by simp only[wq54,Qdd,up0,up1,up2,up3,Qbx]<;>grind]; exact midP1 (Qbl hz) (Qbl hw) hne
theorem dMid1(z w:QC)(b_z:ZL z 1024)(b_w:ZL w 1024)(hz:¬(z.im.num.sign≤0))(hw:¬(w.im.num.sign≤0))(hne:¬(z=w)):Qah Tryz.prog true 49 [.c (gl (.int .i64 1)),.row (rG z),.row (rG w)] (.r (.row (cirF (wq51 z w) (wq52 z w) (wq53 z w) (wq54 z w)))) :=
  Qas (L := [cG z,cG w,cF (1 : Rat),cF (-z.re),cF (nm z),cF (-w.re),cF (nm w),cF (-z.im),cF (w.im * (1 : Rat)),cF ((-z.im) * (1 : Rat)),cF (wq51 z w),cF (w.im * (-z.re)),cF ((-z.im) * (-w.re)),cF (wq52 z w),cF (w.im * z.im),cF ((-z.im) * w.im),cF (wq53 z w),cF (w.im * (nm z)),cF ((-z.im) * (nm w)),cF (wq54 z w),cirF (wq51 z w) (wq52 z w) (wq53 z w) (wq54 z w)].flatten) tys_ok mixed
     [gs (Qcl 1 (by decide) (by decide)) [lc 1] (rQ 12),gs (Qcw z.re) [.row (qS 0)] (rQ 15),gs (Qcp z b_z.mn) [.row (gR 0)] (rQ 18),gs (Qcw w.re) [.row (qS 6)] (rQ 21),gs (Qcp w b_w.mn) [.row (gR 6)] (rQ 24),gs (Qcw z.im) [.row (qS 3)] (rQ 27),gs (Qai w.im (1:Rat) (b_w.2.mn) (ri 1)) [.row (qS 9),.row (qS 12)] (rQ 30),gs (Qai (-z.im) (1:Rat) ((RL_neg b_z.2).mn) (ri 1)) [.row (qS 27),.row (qS 12)] (rQ 33),gs (Qbi (w.im*(1:Rat)) ((-z.im)*(1:Rat)) ((RL_mul b_w.2 (rj 1)).mn) ((RL_mul (RL_neg b_z.2) (rj 1)).mn)) [.row (qS 30),.row (qS 33)] (rQ 36),gs (Qai w.im (-z.re) (b_w.2.mn) ((RL_neg b_z.1).mn)) [.row (qS 9),.row (qS 15)] (rQ 39),gs (Qai (-z.im) (-w.re) ((RL_neg b_z.2).mn) ((RL_neg b_w.1).mn)) [.row (qS 27),.row (qS 21)] (rQ 42),gs (Qbi (w.im*(-z.re)) ((-z.im)*(-w.re)) ((RL_mul b_w.2 (RL_neg b_z.1)).mn) ((RL_mul (RL_neg b_z.2) (RL_neg b_w.1)).mn)) [.row (qS 39),.row (qS 42)] (rQ 45),gs (Qai w.im z.im (b_w.2.mn) (b_z.2.mn)) [.row (qS 9),.row (qS 3)] (rQ 48),gs (Qai (-z.im) w.im ((RL_neg b_z.2).mn) (b_w.2.mn)) [.row (qS 27),.row (qS 9)] (rQ 51),gs (Qbi (w.im*z.im) ((-z.im)*w.im) ((RL_mul b_w.2 b_z.2).mn) ((RL_mul (RL_neg b_z.2) b_w.2).mn)) [.row (qS 48),.row (qS 51)] (rQ 54),gs (Qai w.im (nm z) (b_w.2.mn) ((Qal b_z).mn)) [.row (qS 9),.row (qS 18)] (rQ 57),gs (Qai (-z.im) (nm w) ((RL_neg b_z.2).mn) ((Qal b_w).mn)) [.row (qS 27),.row (qS 24)] (rQ 60),gs (Qbi (w.im*(nm z)) ((-z.im)*(nm w)) ((RL_mul b_w.2 (Qal b_z)).mn) ((RL_mul (RL_neg b_z.2) (Qal b_w)).mn)) [.row (qS 57),.row (qS 60)] (rQ 63),gs (dCirc (wq51 z w) (wq52 z w) (wq53 z w) (wq54 z w) ((wq51_b0 z w b_z b_w).mn) ((wq52_b0 z w b_z b_w).mn) ((wq53_b0 z w b_z b_w).mn) ((wq54_b0 z w b_z b_w).mn) (mid1_d z w hz hw hne)) [.row [.sym 36,.sym 37,.lit (.bool false),.sym 38,.sym 45,.sym 46,.lit (.bool false),.sym 47,.sym 54,.sym 55,.lit (.bool false),.sym 56,.sym 63,.sym 64,.lit (.bool false),.sym 65]] (.tup [.row (Qab 66 16),.c (.lit (.bool true))])]
     [] [] ((Qcv (Qcn (fs117 (fs143 .nil)))):FnsOk Tryz.prog _) 1 3 Tryz.func49 eo49 2000 [lc 1,.row (gR 0),.row (gR 6)] (.r (.row (Qab 66 16)))
theorem dMid1_q0(z w:QC) :wq51 z w=Qdh z w:=by
 simp only[wq51,Qdh,Qdp,Qdj,Qdd,up0,up1,up2,up3,Qbx]<;>grind
theorem dMid1_q1(z w:QC) :wq52 z w=Qdp z w:=by
 simp only[wq52,Qdh,Qdp,Qdj,Qdd,up0,up1,up2,up3,Qbx]<;>grind
theorem dMid1_q2(z w:QC) :wq53 z w=Qdj z w:=by
 simp only[wq53,Qdh,Qdp,Qdj,Qdd,up0,up1,up2,up3,Qbx]<;>grind
theorem dMid1_q3(z w:QC) :wq54 z w=Qdd z w:=by
 simp only[wq54,Qdh,Qdp,Qdj,Qdd,up0,up1,up2,up3,Qbx]<;>grind
theorem dMid1'(z w:QC)(b_z:ZL z 1024)(b_w:ZL w 1024)(hz:¬(z.im.num.sign≤0))(hw:¬(w.im.num.sign≤0))(hne:¬(z=w)):Qah Tryz.prog true 49 [.c (gl (.int .i64 1)),.row (rG z),.row (rG w)] (.r (.row (cirF (Qdh z w) (Qdp z w) (Qdj z w) (Qdd z w)))):=by
 have k_:=dMid1 z w b_z b_w hz hw hne
 simp only[dMid1_q0 z w ,dMid1_q1 z w ,dMid1_q2 z w ,dMid1_q3 z w ] at k_
 exact k_
def wq55(z w:QC):Rat:=up0 (0:Rat) (0:Rat) (1:Rat) (1:Rat) (-z.re) z.im (1:Rat) (-w.re) w.im
theorem wq55_b0(z w:QC)(b_z:Qaf z)(b_w:Qaf w):RL (wq55 z w) 163960:=(pl_up_b0_1' (0:Rat) (0:Rat) (1:Rat) (0:Rat) (1:Rat) (-z.re) z.im (nm z) (1:Rat) (-w.re) w.im (nm w) (ri 0) (ri 0) (ri 1) (ri 0) (ri 1) ((RL_neg ((Qaa b_z).1)).mn) (((Qaa b_z).2).mn) (Qal (Qaa b_z)) (ri 1) ((RL_neg ((Qaa b_w).1)).mn) (((Qaa b_w).2).mn) (Qal (Qaa b_w))).mn
def wq56(z w:QC):Rat:=up1 (0:Rat) (1:Rat) (0:Rat) (1:Rat) z.im (nm z) (1:Rat) w.im (nm w)
theorem wq56_b0(z w:QC)(b_z:Qaf z)(b_w:Qaf w):RL (wq56 z w) 196762:=(pl_up_b0_2' (0:Rat) (0:Rat) (1:Rat) (0:Rat) (1:Rat) (-z.re) z.im (nm z) (1:Rat) (-w.re) w.im (nm w) (ri 0) (ri 0) (ri 1) (ri 0) (ri 1) ((RL_neg ((Qaa b_z).1)).mn) (((Qaa b_z).2).mn) (Qal (Qaa b_z)) (ri 1) ((RL_neg ((Qaa b_w).1)).mn) (((Qaa b_w).2).mn) (Qal (Qaa b_w))).mn
def wq57(z w:QC):Rat:=up2 (0:Rat) (0:Rat) (0:Rat) (1:Rat) (-z.re) (nm z) (1:Rat) (-w.re) (nm w)
theorem wq57_b0(z w:QC)(b_z:Qaf z)(b_w:Qaf w):RL (wq57 z w) 196762:=(pl_up_b0_3' (0:Rat) (0:Rat) (1:Rat) (0:Rat) (1:Rat) (-z.re) z.im (nm z) (1:Rat) (-w.re) w.im (nm w) (ri 0) (ri 0) (ri 1) (ri 0) (ri 1) ((RL_neg ((Qaa b_z).1)).mn) (((Qaa b_z).2).mn) (Qal (Qaa b_z)) (ri 1) ((RL_neg ((Qaa b_w).1)).mn) (((Qaa b_w).2).mn) (Qal (Qaa b_w))).mn
def wq58(z w:QC):Rat:=up3 (0:Rat) (1:Rat) (0:Rat) (-z.re) z.im (nm z) (-w.re) w.im (nm w)
theorem wq58_b0(z w:QC)(b_z:Qaf z)(b_w:Qaf w):RL (wq58 z w) 163960:=(pl_up_b0_4' (0:Rat) (0:Rat) (1:Rat) (0:Rat) (1:Rat) (-z.re) z.im (nm z) (1:Rat) (-w.re) w.im (nm w) (ri 0) (ri 0) (ri 1) (ri 0) (ri 1) ((RL_neg ((Qaa b_z).1)).mn) (((Qaa b_z).2).mn) (Qal (Qaa b_z)) (ri 1) ((RL_neg ((Qaa b_w).1)).mn) (((Qaa b_w).2).mn) (Qal (Qaa b_w))).mn
theorem lin1_p(z w:QC)(hz:¬(z.im.num.sign≤0))(hw:¬(w.im.num.sign≤0))(hne:¬(z=w)):0<Qbw (wq55 z w) (wq56 z w) (wq57 z w) (wq58 z w) (wq55 z w) (wq56 z w) (wq57 z w) (wq58 z w):=by
 rw[show(wq55 z w)=Qdo z w from by simp only[wq55,Qdo,up0,up1,up2,up3,Qbx]<;>grind,show(wq56 z w)=Qdi z w from by simp only[wq56,Qdi,up0,up1,up2,up3,Qbx]<;>grind,show(wq57 z w)=Qde z w from by simp only[wq57,Qde,up0,up1,up2,up3,Qbx]<;>grind,show(wq58 z w)=Qdc z w from by simp only[wq58,Qdc,up0,up1,up2,up3,Qbx]<;>grind]; exact linP1 (Qbl hz) (Qbl hw) hne
theorem pLin1(z w:QC)(b_z:Qaf z)(b_w:Qaf w)(hz:¬(z.im.num.sign≤0))(hw:¬(w.im.num.sign≤0))(hne:¬(z=w)):Qah Tryz.prog true 38 [.c (gl (.int .i64 1)),.row ((Qae z).cells),.row ((Qae w).cells)] (if CirS (wq55 z w) (wq56 z w) (wq57 z w) (wq58 z w) then .tup [.row (cirF (wq55 z w) (wq56 z w) (wq57 z w) (wq58 z w)),.c (gl (.int .i64 0))] else .tup [.row (zGG++zGG),.c (gl (.int .i64 4))]) :=
  have t1:=pGInt 0 1 (by decide) (by decide) (by decide) (by decide)
  have t2:=pGInt 0 0 (by decide) (by decide) (by decide) (by decide)
  have t3:=Qaz z ((Qaa b_z).mn)
  have t4:=Qaz w ((Qaa b_w).mn)
  have t5:=Qbb 0 1 (by decide) (by decide) (by decide) (by decide) (by decide)
  have t6:=Qbb 1 1 (by decide) (by decide) (by decide) (by decide) (by decide)
  have t7:=Qcy z ((Qaa b_z).mn)
  have t8:=Qcy w ((Qaa b_w).mn)
  have t9:=pl_up' (0:Rat) (0:Rat) (1:Rat) (0:Rat) (1:Rat) (-z.re) z.im (nm z) (1:Rat) (-w.re) w.im (nm w) (ri 0) (ri 0) (ri 1) (ri 0) (ri 1) ((RL_neg ((Qaa b_z).1)).mn) (((Qaa b_z).2).mn) ((Qal (Qaa b_z)).mn) (ri 1) ((RL_neg ((Qaa b_w).1)).mn) (((Qaa b_w).2).mn) ((Qal (Qaa b_w)).mn)
  have t10:=pCirc (wq55 z w) (wq56 z w) (wq57 z w) (wq58 z w) ((wq55_b0 z w b_z b_w).mn) ((wq56_b0 z w b_z b_w).mn) ((wq57_b0 z w b_z b_w).mn) ((wq58_b0 z w b_z b_w).mn) (by_ne (lin1_p z w hz hw hne))
  (Classical.em (CirS (wq55 z w) (wq56 z w) (wq57 z w) (wq58 z w))).elim (fun h0 => .it h0 (Qas (L := [(Qae z).cells,(Qae w).cells,(Qae (⟨0,1⟩ : QC)).cells,(Qae (⟨0,0⟩ : QC)).cells,cn z,[gr z.re],[gr z.im],[gx (.int .i64 z.im.num.sign)],cn w,[gr w.re],[gr w.im],[gx (.int .i64 w.im.num.sign)],[gr (0 : Rat)],[gr (1 : Rat)],[gr (1 : Rat)],[gr (-z.re)],[gr z.im],[gr (nm z)],[gr (1 : Rat)],[gr (-w.re)],[gr w.im],[gr (nm w)],[gr (wq55 z w)],[gr (wq56 z w)],[gr (wq57 z w)],[gr (wq58 z w)],cirF (wq55 z w) (wq56 z w) (wq57 z w) (wq58 z w)].flatten) tys_ok mixed
     [gs (t1) [lc 0,lc 1] (.r (.row (Qab 16 8))),gs (t2) [lc 0,lc 0] (.r (.row (Qab 24 8))),gs (Qbm z b_z) [.row (Qab 0 8)] (.tup [sy [32,33],.c (.lit (.bool true))]),gs (t3) [sy [32,33]] (.tup [cS 34,cS 35]),gs (Qan z.im) [cS 35] (rS 36),gs (Qbm w b_w) [.row (Qab 8 8)] (.tup [sy [37,38],.c (.lit (.bool true))]),gs (t4) [sy [37,38]] (.tup [cS 39,cS 40]),gs (Qan w.im) [cS 40] (rS 41),gs (t5) [lc 0,lc 1] (rS 42),gs (t6) [lc 1,lc 1] (rS 43),gs (t7) [sy [32,33]] (.r (.row (Qab 44 4))),gs (t8) [sy [37,38]] (.r (.row (Qab 48 4))),
      gsG (t9) 34 ⟨flA [[.sym 42,.sym 42,.sym 43,.sym 42],Qab 44 8],143,none⟩ [.c (.sl 0 0 3 3)] (.r (.row (Qab 52 4))),gs (t10.t h0) [.row (Qab 52 4)] (.tup [.row (Qab 56 16),lc 0])]
     [bI .leq 3 (.sym 36) (li 0) z.im.num.sign 0 false (cbF hz),bI .leq 3 (.sym 41) (li 0) w.im.num.sign 0 false (cbF hw),bG (.row (Qab 0 8)) (.row (Qab 8 8)) (Qae z) (Qae w) false ((fI hne).trans Qbp.symm)] [] ((Qbu (Qdz (Qbv (Qbs (Qbr (Qdy (Qbt (fs99 .nil)))))))):FnsOk Tryz.prog _) 1 3 Tryz.func38 eo38 2000 [lc 1,.row (Qab 0 8),.row (Qab 8 8)] (.tup [.row (Qab 56 16),lc 0])))
   (fun h0=>.ie (fun h=>h0 h) (Qas (L:=[(Qae z).cells,(Qae w).cells,(Qae (⟨0,1⟩:QC)).cells,(Qae (⟨0,0⟩:QC)).cells,cn z,[gr z.re],[gr z.im],[gx (.int .i64 z.im.num.sign)],cn w,[gr w.re],[gr w.im],[gx (.int .i64 w.im.num.sign)],[gr (0:Rat)],[gr (1:Rat)],[gr (1:Rat)],[gr (-z.re)],[gr z.im],[gr (nm z)],[gr (1:Rat)],[gr (-w.re)],[gr w.im],[gr (nm w)],[gr (wq55 z w)],[gr (wq56 z w)],[gr (wq57 z w)],[gr (wq58 z w)]].flatten) tys_ok mixed
     [gs (t1) [lc 0,lc 1] (.r (.row (Qab 16 8))),gs (t2) [lc 0,lc 0] (.r (.row (Qab 24 8))),gs (Qbm z b_z) [.row (Qab 0 8)] (.tup [sy [32,33],.c (.lit (.bool true))]),gs (t3) [sy [32,33]] (.tup [cS 34,cS 35]),gs (Qan z.im) [cS 35] (rS 36),gs (Qbm w b_w) [.row (Qab 8 8)] (.tup [sy [37,38],.c (.lit (.bool true))]),gs (t4) [sy [37,38]] (.tup [cS 39,cS 40]),gs (Qan w.im) [cS 40] (rS 41),gs (t5) [lc 0,lc 1] (rS 42),gs (t6) [lc 1,lc 1] (rS 43),gs (t7) [sy [32,33]] (.r (.row (Qab 44 4))),gs (t8) [sy [37,38]] (.r (.row (Qab 48 4))),
      gsG (t9) 34 ⟨flA [[.sym 42,.sym 42,.sym 43,.sym 42],Qab 44 8],143,none⟩ [.c (.sl 0 0 3 3)] (.r (.row (Qab 52 4))),gs (t10.f h0) [.row (Qab 52 4)] (.tup [.row (flA [zGA,zGA]),lc 4])]
     [bI .leq 3 (.sym 36) (li 0) z.im.num.sign 0 false (cbF hz),bI .leq 3 (.sym 41) (li 0) w.im.num.sign 0 false (cbF hw),bG (.row (Qab 0 8)) (.row (Qab 8 8)) (Qae z) (Qae w) false ((fI hne).trans Qbp.symm)] [] ((Qbu (Qdz (Qbv (Qbs (Qbr (Qdy (Qbt (fs99 .nil)))))))):FnsOk Tryz.prog _) 1 3 Tryz.func38 eo38 2000 [lc 1,.row (Qab 0 8),.row (Qab 8 8)] (.tup [.row (flA [zGA,zGA]),lc 4])))
theorem pLin1_q0(z w:QC) :wq55 z w=Qdo z w:=by
 simp only[wq55,Qdo,Qdi,Qde,Qdc,up0,up1,up2,up3,Qbx]<;>grind
theorem pLin1_q1(z w:QC) :wq56 z w=Qdi z w:=by
 simp only[wq56,Qdo,Qdi,Qde,Qdc,up0,up1,up2,up3,Qbx]<;>grind
theorem pLin1_q2(z w:QC) :wq57 z w=Qde z w:=by
 simp only[wq57,Qdo,Qdi,Qde,Qdc,up0,up1,up2,up3,Qbx]<;>grind
theorem pLin1_q3(z w:QC) :wq58 z w=Qdc z w:=by
 simp only[wq58,Qdo,Qdi,Qde,Qdc,up0,up1,up2,up3,Qbx]<;>grind
theorem pLin1'(z w:QC)(b_z:Qaf z)(b_w:Qaf w)(hz:¬(z.im.num.sign≤0))(hw:¬(w.im.num.sign≤0))(hne:¬(z=w)):Qah Tryz.prog true 38 [.c (gl (.int .i64 1)),.row ((Qae z).cells),.row ((Qae w).cells)] (if CirS (Qdo z w) (Qdi z w) (Qde z w) (Qdc z w) then .tup [.row (cirF (Qdo z w) (Qdi z w) (Qde z w) (Qdc z w)),.c (gl (.int .i64 0))] else .tup [.row (zGG++zGG),.c (gl (.int .i64 4))]):=by
 have k_:=pLin1 z w b_z b_w hz hw hne
 simp only[pLin1_q0 z w ,pLin1_q1 z w ,pLin1_q2 z w ,pLin1_q3 z w ] at k_
 exact k_
def wq59(z w:QC):Rat:=up0 (0:Rat) ((⟨0,1⟩:QC).re) ((⟨0,1⟩:QC).im) (1:Rat) (-z.re) z.im (1:Rat) (-w.re) w.im
theorem wq59_b0(z w:QC){k:Nat}(b_z:ZL z k)(b_w:ZL w k):RL (wq59 z w) (60*k+15398):=(dUp_b0_1' (0:Rat) ((⟨0,1⟩:QC).re) ((⟨0,1⟩:QC).im) (0:Rat) (1:Rat) (-z.re) z.im (nm z) (1:Rat) (-w.re) w.im (nm w) (ri 0) (((Qaa (Qau (by decide +kernel))).1).mn) (((Qaa (Qau (by decide +kernel))).2).mn) (ri 0) (ri 1) ((RL_neg b_z.1).mn) (b_z.2.mn) ((Qal b_z).upby 1023) (ri 1) ((RL_neg b_w.1).mn) (b_w.2.mn) ((Qal b_w).mn)).mn
def wq60(z w:QC):Rat:=up1 (0:Rat) ((⟨0,1⟩:QC).im) (0:Rat) (1:Rat) z.im (nm z) (1:Rat) w.im (nm w)
theorem wq60_b0(z w:QC){k:Nat}(b_z:ZL z k)(b_w:ZL w k):RL (wq60 z w) (60*k+15398):=(dUp_b0_2' (0:Rat) ((⟨0,1⟩:QC).re) ((⟨0,1⟩:QC).im) (0:Rat) (1:Rat) (-z.re) z.im (nm z) (1:Rat) (-w.re) w.im (nm w) (ri 0) (((Qaa (Qau (by decide +kernel))).1).mn) (((Qaa (Qau (by decide +kernel))).2).mn) (ri 0) (ri 1) ((RL_neg b_z.1).mn) (b_z.2.mn) ((Qal b_z).upby 1023) (ri 1) ((RL_neg b_w.1).mn) (b_w.2.mn) ((Qal b_w).mn)).mn
def wq61(z w:QC):Rat:=up2 (0:Rat) ((⟨0,1⟩:QC).re) (0:Rat) (1:Rat) (-z.re) (nm z) (1:Rat) (-w.re) (nm w)
theorem wq61_b0(z w:QC){k:Nat}(b_z:ZL z k)(b_w:ZL w k):RL (wq61 z w) (60*k+15398):=(dUp_b0_3' (0:Rat) ((⟨0,1⟩:QC).re) ((⟨0,1⟩:QC).im) (0:Rat) (1:Rat) (-z.re) z.im (nm z) (1:Rat) (-w.re) w.im (nm w) (ri 0) (((Qaa (Qau (by decide +kernel))).1).mn) (((Qaa (Qau (by decide +kernel))).2).mn) (ri 0) (ri 1) ((RL_neg b_z.1).mn) (b_z.2.mn) ((Qal b_z).upby 1023) (ri 1) ((RL_neg b_w.1).mn) (b_w.2.mn) ((Qal b_w).mn)).mn
def wq62(z w:QC):Rat:=up3 ((⟨0,1⟩:QC).re) ((⟨0,1⟩:QC).im) (0:Rat) (-z.re) z.im (nm z) (-w.re) w.im (nm w)
theorem wq62_b0(z w:QC){k:Nat}(b_z:ZL z k)(b_w:ZL w k):RL (wq62 z w) (60*k+15398):=(dUp_b0_4' (0:Rat) ((⟨0,1⟩:QC).re) ((⟨0,1⟩:QC).im) (0:Rat) (1:Rat) (-z.re) z.im (nm z) (1:Rat) (-w.re) w.im (nm w) (ri 0) (((Qaa (Qau (by decide +kernel))).1).mn) (((Qaa (Qau (by decide +kernel))).2).mn) (ri 0) (ri 1) ((RL_neg b_z.1).mn) (b_z.2.mn) ((Qal b_z).upby 1023) (ri 1) ((RL_neg b_w.1).mn) (b_w.2.mn) ((Qal b_w).mn)).mn
theorem lin1_d(z w:QC)(hz:¬(z.im.num.sign≤0))(hw:¬(w.im.num.sign≤0))(hne:¬(z=w)):0<Qbw (wq59 z w) (wq60 z w) (wq61 z w) (wq62 z w) (wq59 z w) (wq60 z w) (wq61 z w) (wq62 z w):=by
 rw[show(wq59 z w)=Qdo z w from by simp only[wq59,Qdo,up0,up1,up2,up3,Qbx]<;>grind,show(wq60 z w)=Qdi z w from by simp only[wq60,Qdi,up0,up1,up2,up3,Qbx]<;>grind,show(wq61 z w)=Qde z w from by simp only[wq61,Qde,up0,up1,up2,up3,Qbx]<;>grind,show(wq62 z w)=Qdc z w from by simp only[wq62,Qdc,up0,up1,up2,up3,Qbx]<;>grind]; exact linP1 (Qbl hz) (Qbl hw) hne
theorem dLin1(z w:QC)(b_z:ZL z 1024)(b_w:ZL w 1024)(hz:¬(z.im.num.sign≤0))(hw:¬(w.im.num.sign≤0))(hne:¬(z=w)):Qah Tryz.prog true 47 [.c (gl (.int .i64 1)),.row (rG z),.row (rG w)] (.r (.row (cirF (wq59 z w) (wq60 z w) (wq61 z w) (wq62 z w)))) :=
  Qas (L := [cG z,cG w,cF (0 : Rat),(Qae (⟨0,1⟩ : QC)).cells,cF (1 : Rat),cF (-z.re),cF (nm z),cF (-w.re),cF (nm w),cF (wq59 z w),cF (wq60 z w),cF (wq61 z w),cF (wq62 z w),cirF (wq59 z w) (wq60 z w) (wq61 z w) (wq62 z w)].flatten) tys_ok mixed
     [gs (Qcl 0 (by decide) (by decide)) [lc 0] (rQ 12),gs (rInt 0 1 (by decide) (by decide) (by decide) (by decide)) [lc 0,lc 1] (.r (.row (Qab 15 8))),gs (Qcl 1 (by decide) (by decide)) [lc 1] (rQ 23),gs (Qcw z.re) [.row (qS 0)] (rQ 26),gs (Qcp z b_z.mn) [.row (gR 0)] (rQ 29),gs (Qcw w.re) [.row (qS 6)] (rQ 32),gs (Qcp w b_w.mn) [.row (gR 6)] (rQ 35),gs (dUp' (0:Rat) ((⟨0,1⟩:QC).re) ((⟨0,1⟩:QC).im) (0:Rat) (1:Rat) (-z.re) z.im (nm z) (1:Rat) (-w.re) w.im (nm w) (ri 0) (((Qaa (Qau (by decide +kernel))).1).mn) (((Qaa (Qau (by decide +kernel))).2).mn) (ri 0) (ri 1) ((RL_neg b_z.1).mn) (b_z.2.mn) ((Qal b_z).mn) (ri 1) ((RL_neg b_w.1).mn) (b_w.2.mn) ((Qal b_w).mn)) [.row (flA [[.sym 12,.sym 13,.lit (.bool false)],Qab 14 9,(qS 12),gR 23,[.sym 3,.sym 4,.lit (.bool false),.sym 5,.sym 29,.sym 30,.lit (.bool false),.sym 31,.sym 23,.sym 24,.lit (.bool false),.sym 25,.sym 32,.sym 33,.lit (.bool false),.sym 34,.sym 9,.sym 10,.lit (.bool false),.sym 11,.sym 35,.sym 36,.lit (.bool false),.sym 37]])] (.r (.row (gL [38,44]))),gs (dCirc (wq59 z w) (wq60 z w) (wq61 z w) (wq62 z w) ((wq59_b0 z w b_z b_w).mn) ((wq60_b0 z w b_z b_w).mn) ((wq61_b0 z w b_z b_w).mn) ((wq62_b0 z w b_z b_w).mn) (lin1_d z w hz hw hne)) [.row (gL [38,44])] (.tup [.row (Qab 50 16),.c (.lit (.bool true))])]
     [] [] ((Qcv (Qcn (fs117 (fs95 (fs113 .nil))))):FnsOk Tryz.prog _) 1 3 Tryz.func47 eo47 2000 [lc 1,.row (gR 0),.row (gR 6)] (.r (.row (Qab 50 16)))
theorem dLin1_q0(z w:QC) :wq59 z w=Qdo z w:=by
 simp only[wq59,Qdo,Qdi,Qde,Qdc,up0,up1,up2,up3,Qbx]<;>grind
theorem dLin1_q1(z w:QC) :wq60 z w=Qdi z w:=by
 simp only[wq60,Qdo,Qdi,Qde,Qdc,up0,up1,up2,up3,Qbx]<;>grind
theorem dLin1_q2(z w:QC) :wq61 z w=Qde z w:=by
 simp only[wq61,Qdo,Qdi,Qde,Qdc,up0,up1,up2,up3,Qbx]<;>grind
theorem dLin1_q3(z w:QC) :wq62 z w=Qdc z w:=by
 simp only[wq62,Qdo,Qdi,Qde,Qdc,up0,up1,up2,up3,Qbx]<;>grind
theorem dLin1'(z w:QC)(b_z:ZL z 1024)(b_w:ZL w 1024)(hz:¬(z.im.num.sign≤0))(hw:¬(w.im.num.sign≤0))(hne:¬(z=w)):Qah Tryz.prog true 47 [.c (gl (.int .i64 1)),.row (rG z),.row (rG w)] (.r (.row (cirF (Qdo z w) (Qdi z w) (Qde z w) (Qdc z w)))):=by
 have k_:=dLin1 z w b_z b_w hz hw hne
 simp only[dLin1_q0 z w ,dLin1_q1 z w ,dLin1_q2 z w ,dLin1_q3 z w ] at k_
 exact k_
end Go.Proofs.YtmimficdpfmfgaaGreat
