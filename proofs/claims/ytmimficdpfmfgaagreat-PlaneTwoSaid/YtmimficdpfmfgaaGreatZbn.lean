/- Laws for the walk. -/
import Derived.Test.YtmimficdpfmfgaaGreatZbm
set_option linter.unusedVariables false
set_option linter.unusedSimpArgs false
set_option maxHeartbeats 4000000
namespace Go.Proofs.YtmimficdpfmfgaaGreat
open Go.RowKit Tr
open Classical
def wq63(w:QC):Rat:=(1:Rat)*((1:Rat) - (nm w))
theorem wq63_b0(w:QC)(b_w:Qaf w):RL (wq63 w) 16390:=(Qac (1:Rat) ((1:Rat) - (nm w)) (ri 1) (Qaj (1:Rat) (nm w) (ri 1) (Qal (Qaa b_w)))).mn
def wq64(z:QC):Rat:=(1:Rat)*((1:Rat) - (nm z))
theorem wq64_b0(z:QC)(b_z:Qaf z):RL (wq64 z) 16390:=(Qac (1:Rat) ((1:Rat) - (nm z)) (ri 1) (Qaj (1:Rat) (nm z) (ri 1) (Qal (Qaa b_z)))).mn
def wq65(z w:QC):Rat:=((-z.re)*((1:Rat) - (nm w))) - ((-w.re)*((1:Rat) - (nm z)))
theorem wq65_b0(z w:QC)(b_z:Qaf z)(b_w:Qaf w):RL (wq65 z w) 32781:=(Qaj ((-z.re)*((1:Rat) - (nm w))) ((-w.re)*((1:Rat) - (nm z))) (Qac (-z.re) ((1:Rat) - (nm w)) ((RL_neg ((Qaa b_z).1)).mn) (Qaj (1:Rat) (nm w) (ri 1) (Qal (Qaa b_w)))) (Qac (-w.re) ((1:Rat) - (nm z)) ((RL_neg ((Qaa b_w).1)).mn) (Qaj (1:Rat) (nm z) (ri 1) (Qal (Qaa b_z))))).mn
def wq66(z w:QC):Rat:=(z.im*((1:Rat) - (nm w))) - (w.im*((1:Rat) - (nm z)))
theorem wq66_b0(z w:QC)(b_z:Qaf z)(b_w:Qaf w):RL (wq66 z w) 32781:=(Qaj (z.im*((1:Rat) - (nm w))) (w.im*((1:Rat) - (nm z))) (Qac z.im ((1:Rat) - (nm w)) (((Qaa b_z).2).mn) (Qaj (1:Rat) (nm w) (ri 1) (Qal (Qaa b_w)))) (Qac w.im ((1:Rat) - (nm z)) (((Qaa b_w).2).mn) (Qaj (1:Rat) (nm z) (ri 1) (Qal (Qaa b_z))))).mn
def wq67(z w:QC):Rat:=((nm z)*((1:Rat) - (nm w))) - ((nm w)*((1:Rat) - (nm z)))
theorem wq67_b0(z w:QC)(b_z:Qaf z)(b_w:Qaf w):RL (wq67 z w) 32781:=(Qaj ((nm z)*((1:Rat) - (nm w))) ((nm w)*((1:Rat) - (nm z))) (Qac (nm z) ((1:Rat) - (nm w)) ((Qal (Qaa b_z)).mn) (Qaj (1:Rat) (nm w) (ri 1) (Qal (Qaa b_w)))) (Qac (nm w) ((1:Rat) - (nm z)) ((Qal (Qaa b_w)).mn) (Qaj (1:Rat) (nm z) (ri 1) (Qal (Qaa b_z))))).mn
theorem mid2_p(z w:QC)(hz:¬((((1:Rat) - (nm z)).num.sign)≤0))(hw:¬((((1:Rat) - (nm w)).num.sign)≤0))(hne:¬(z=w)):0<Qbw ((wq63 w) - (wq64 z)) (wq65 z w) (wq66 z w) (wq67 z w) ((wq63 w) - (wq64 z)) (wq65 z w) (wq66 z w) (wq67 z w):=by
 rw[show((wq63 w) - (wq64 z))=Qdk z w from by simp only[wq63,wq64,Qdk,up0,up1,up2,up3,Qbx]<;>grind,show(wq65 z w)=Qdl z w from by simp only[wq65,Qdl,up0,up1,up2,up3,Qbx]<;>grind,show(wq66 z w)=Qdm z w from by simp only[wq66,Qdm,up0,up1,up2,up3,Qbx]<;>grind,show(wq67 z w)=Qdn z w from by simp only[wq67,Qdn,up0,up1,up2,up3,Qbx]<;>grind]; exact midP2 (Qbl hz) (Qbl hw) hne
theorem pMid2(z w:QC)(b_z:Qaf z)(b_w:Qaf w)(hz:¬((((1:Rat) - (nm z)).num.sign)≤0))(hw:¬((((1:Rat) - (nm w)).num.sign)≤0))(hne:¬(z=w)):Qah Tryz.prog true 39 [.c (gl (.int .i64 2)),.row ((Qae z).cells),.row ((Qae w).cells)] (if CirS ((wq63 w) - (wq64 z)) (wq65 z w) (wq66 z w) (wq67 z w) then .tup [.row (cirF ((wq63 w) - (wq64 z)) (wq65 z w) (wq66 z w) (wq67 z w)),.c (gl (.int .i64 0))] else .tup [.row (zGG++zGG),.c (gl (.int .i64 4))]) :=
  have t1:=pGInt 0 1 (by decide) (by decide) (by decide) (by decide)
  have t2:=pGInt 0 0 (by decide) (by decide) (by decide) (by decide)
  have t3:=Qbb 1 1 (by decide) (by decide) (by decide) (by decide) (by decide)
  have t4:=Qbn z ((Qaa b_z).mn)
  have t5:=Qay (1:Rat) (nm z) (ri 1) ((Qal (Qaa b_z)).mn)
  have t6:=Qan ((1:Rat) - (nm z))
  have t7:=Qbn w ((Qaa b_w).mn)
  have t8:=Qay (1:Rat) (nm w) (ri 1) ((Qal (Qaa b_w)).mn)
  have t9:=Qan ((1:Rat) - (nm w))
  have t10:=Qcy z ((Qaa b_z).mn)
  have t11:=Qcy w ((Qaa b_w).mn)
  have t12:=Qao (1:Rat) ((1:Rat) - (nm w)) (ri 1) ((Qaj (1:Rat) (nm w) (ri 1) (Qal (Qaa b_w))).mn)
  have t13:=Qao (1:Rat) ((1:Rat) - (nm z)) (ri 1) ((Qaj (1:Rat) (nm z) (ri 1) (Qal (Qaa b_z))).mn)
  have t14:=Qay (wq63 w) (wq64 z) ((wq63_b0 w b_w).mn) ((wq64_b0 z b_z).mn)
  have t15:=Qao (-z.re) ((1:Rat) - (nm w)) ((RL_neg ((Qaa b_z).1)).mn) ((Qaj (1:Rat) (nm w) (ri 1) (Qal (Qaa b_w))).mn)
  have t16:=Qao (-w.re) ((1:Rat) - (nm z)) ((RL_neg ((Qaa b_w).1)).mn) ((Qaj (1:Rat) (nm z) (ri 1) (Qal (Qaa b_z))).mn)
  have t17:=Qay ((-z.re)*((1:Rat) - (nm w))) ((-w.re)*((1:Rat) - (nm z))) ((Qac (-z.re) ((1:Rat) - (nm w)) ((RL_neg ((Qaa b_z).1)).mn) (Qaj (1:Rat) (nm w) (ri 1) (Qal (Qaa b_w)))).mn) ((Qac (-w.re) ((1:Rat) - (nm z)) ((RL_neg ((Qaa b_w).1)).mn) (Qaj (1:Rat) (nm z) (ri 1) (Qal (Qaa b_z)))).mn)
  have t18:=Qao z.im ((1:Rat) - (nm w)) (((Qaa b_z).2).mn) ((Qaj (1:Rat) (nm w) (ri 1) (Qal (Qaa b_w))).mn)
  have t19:=Qao w.im ((1:Rat) - (nm z)) (((Qaa b_w).2).mn) ((Qaj (1:Rat) (nm z) (ri 1) (Qal (Qaa b_z))).mn)
  have t20:=Qay (z.im*((1:Rat) - (nm w))) (w.im*((1:Rat) - (nm z))) ((Qac z.im ((1:Rat) - (nm w)) (((Qaa b_z).2).mn) (Qaj (1:Rat) (nm w) (ri 1) (Qal (Qaa b_w)))).mn) ((Qac w.im ((1:Rat) - (nm z)) (((Qaa b_w).2).mn) (Qaj (1:Rat) (nm z) (ri 1) (Qal (Qaa b_z)))).mn)
  have t21:=Qao (nm z) ((1:Rat) - (nm w)) ((Qal (Qaa b_z)).mn) ((Qaj (1:Rat) (nm w) (ri 1) (Qal (Qaa b_w))).mn)
  have t22:=Qao (nm w) ((1:Rat) - (nm z)) ((Qal (Qaa b_w)).mn) ((Qaj (1:Rat) (nm z) (ri 1) (Qal (Qaa b_z))).mn)
  have t23:=Qay ((nm z)*((1:Rat) - (nm w))) ((nm w)*((1:Rat) - (nm z))) ((Qac (nm z) ((1:Rat) - (nm w)) ((Qal (Qaa b_z)).mn) (Qaj (1:Rat) (nm w) (ri 1) (Qal (Qaa b_w)))).mn) ((Qac (nm w) ((1:Rat) - (nm z)) ((Qal (Qaa b_w)).mn) (Qaj (1:Rat) (nm z) (ri 1) (Qal (Qaa b_z)))).mn)
  have t24:=pCirc ((wq63 w) - (wq64 z)) (wq65 z w) (wq66 z w) (wq67 z w) ((Qaj (wq63 w) (wq64 z) (wq63_b0 w b_w) (wq64_b0 z b_z)).mn) ((wq65_b0 z w b_z b_w).mn) ((wq66_b0 z w b_z b_w).mn) ((wq67_b0 z w b_z b_w).mn) (by_ne (mid2_p z w hz hw hne))
  (Classical.em (CirS ((wq63 w) - (wq64 z)) (wq65 z w) (wq66 z w) (wq67 z w))).elim (fun h0 => .it h0 (Qas (L := [(Qae z).cells,(Qae w).cells,(Qae (⟨0,1⟩ : QC)).cells,(Qae (⟨0,0⟩ : QC)).cells,cn z,[gr (1 : Rat)],[gr (nm z)],[gr ((1 : Rat) - (nm z))],[gx (.int .i64 (((1 : Rat) - (nm z)).num.sign))],cn w,[gr (nm w)],[gr ((1 : Rat) - (nm w))],[gx (.int .i64 (((1 : Rat) - (nm w)).num.sign))],[gr (1 : Rat)],[gr (-z.re)],[gr z.im],[gr (nm z)],[gr (1 : Rat)],[gr (-w.re)],[gr w.im],[gr (nm w)],[gr (wq63 w)],[gr (wq64 z)],[gr ((wq63 w) - (wq64 z))],[gr ((-z.re) * ((1 : Rat) - (nm w)))],[gr ((-w.re) * ((1 : Rat) - (nm z)))],[gr (wq65 z w)],[gr (z.im * ((1 : Rat) - (nm w)))],[gr (w.im * ((1 : Rat) - (nm z)))],[gr (wq66 z w)],[gr ((nm z) * ((1 : Rat) - (nm w)))],[gr ((nm w) * ((1 : Rat) - (nm z)))],[gr (wq67 z w)],cirF ((wq63 w) - (wq64 z)) (wq65 z w) (wq66 z w) (wq67 z w)].flatten) tys_ok mixed
     [gs (t1) [lc 0,lc 1] (.r (.row (Qab 16 8))),gs (t2) [lc 0,lc 0] (.r (.row (Qab 24 8))),gs (Qbm z b_z) [.row (Qab 0 8)] (.tup [sy [32,33],.c (.lit (.bool true))]),gs (t3) [lc 1,lc 1] (rS 34),gs (t4) [sy [32,33]] (rS 35),gs (t5) [cS 34,cS 35] (rS 36),gs (t6) [cS 36] (rS 37),gs (Qbm w b_w) [.row (Qab 8 8)] (.tup [sy [38,39],.c (.lit (.bool true))]),gs (t7) [sy [38,39]] (rS 40),gs (t8) [cS 34,cS 40] (rS 41),gs (t9) [cS 41] (rS 42),gs (t10) [sy [32,33]] (.r (.row (Qab 43 4))),gs (t11) [sy [38,39]] (.r (.row (Qab 47 4))),gs (t12) [cS 43,cS 41] (rS 51),gs (t13) [cS 47,cS 36] (rS 52),gs (t14) [cS 51,cS 52] (rS 53),gs (t15) [cS 44,cS 41] (rS 54),gs (t16) [cS 48,cS 36] (rS 55),gs (t17) [cS 54,cS 55] (rS 56),gs (t18) [cS 45,cS 41] (rS 57),gs (t19) [cS 49,cS 36] (rS 58),gs (t20) [cS 57,cS 58] (rS 59),gs (t21) [cS 46,cS 41] (rS 60),gs (t22) [cS 50,cS 36] (rS 61),gs (t23) [cS 60,cS 61] (rS 62),gs (t24.t h0) [.row [.sym 53,.sym 56,.sym 59,.sym 62]] (.tup [.row (Qab 63 16),lc 0])]
     [bI .leq 3 (.sym 37) (li 0) (((1:Rat) - (nm z)).num.sign) 0 false (cbF hz),bI .leq 3 (.sym 42) (li 0) (((1:Rat) - (nm w)).num.sign) 0 false (cbF hw),bG (.row (Qab 0 8)) (.row (Qab 8 8)) (Qae z) (Qae w) false ((fI hne).trans Qbp.symm)] [] ((Qbu (Qdz (Qbv (Qbs (Qbr (Qdy (Qbt (fs99 .nil)))))))):FnsOk Tryz.prog _) 1 3 Tryz.func39 eo39 2000 [lc 2,.row (Qab 0 8),.row (Qab 8 8)] (.tup [.row (Qab 63 16),lc 0])))
   (fun h0=>.ie (fun h=>h0 h) (Qas (L:=[(Qae z).cells,(Qae w).cells,(Qae (⟨0,1⟩:QC)).cells,(Qae (⟨0,0⟩:QC)).cells,cn z,[gr (1:Rat)],[gr (nm z)],[gr ((1:Rat) - (nm z))],[gx (.int .i64 (((1:Rat) - (nm z)).num.sign))],cn w,[gr (nm w)],[gr ((1:Rat) - (nm w))],[gx (.int .i64 (((1:Rat) - (nm w)).num.sign))],[gr (1:Rat)],[gr (-z.re)],[gr z.im],[gr (nm z)],[gr (1:Rat)],[gr (-w.re)],[gr w.im],[gr (nm w)],[gr (wq63 w)],[gr (wq64 z)],[gr ((wq63 w) - (wq64 z))],[gr ((-z.re)*((1:Rat) - (nm w)))],[gr ((-w.re)*((1:Rat) - (nm z)))],[gr (wq65 z w)],[gr (z.im*((1:Rat) - (nm w)))],[gr (w.im*((1:Rat) - (nm z)))],[gr (wq66 z w)],[gr ((nm z)*((1:Rat) - (nm w)))],[gr ((nm w)*((1:Rat) - (nm z)))],[gr (wq67 z w)]].flatten) tys_ok mixed
     [gs (t1) [lc 0,lc 1] (.r (.row (Qab 16 8))),gs (t2) [lc 0,lc 0] (.r (.row (Qab 24 8))),gs (Qbm z b_z) [.row (Qab 0 8)] (.tup [sy [32,33],.c (.lit (.bool true))]),gs (t3) [lc 1,lc 1] (rS 34),gs (t4) [sy [32,33]] (rS 35),gs (t5) [cS 34,cS 35] (rS 36),gs (t6) [cS 36] (rS 37),gs (Qbm w b_w) [.row (Qab 8 8)] (.tup [sy [38,39],.c (.lit (.bool true))]),gs (t7) [sy [38,39]] (rS 40),gs (t8) [cS 34,cS 40] (rS 41),gs (t9) [cS 41] (rS 42),gs (t10) [sy [32,33]] (.r (.row (Qab 43 4))),gs (t11) [sy [38,39]] (.r (.row (Qab 47 4))),gs (t12) [cS 43,cS 41] (rS 51),gs (t13) [cS 47,cS 36] (rS 52),gs (t14) [cS 51,cS 52] (rS 53),gs (t15) [cS 44,cS 41] (rS 54),gs (t16) [cS 48,cS 36] (rS 55),gs (t17) [cS 54,cS 55] (rS 56),gs (t18) [cS 45,cS 41] (rS 57),gs (t19) [cS 49,cS 36] (rS 58),gs (t20) [cS 57,cS 58] (rS 59),gs (t21) [cS 46,cS 41] (rS 60),gs (t22) [cS 50,cS 36] (rS 61),gs (t23) [cS 60,cS 61] (rS 62),gs (t24.f h0) [.row [.sym 53,.sym 56,.sym 59,.sym 62]] (.tup [.row (flA [zGA,zGA]),lc 4])]
     [bI .leq 3 (.sym 37) (li 0) (((1:Rat) - (nm z)).num.sign) 0 false (cbF hz),bI .leq 3 (.sym 42) (li 0) (((1:Rat) - (nm w)).num.sign) 0 false (cbF hw),bG (.row (Qab 0 8)) (.row (Qab 8 8)) (Qae z) (Qae w) false ((fI hne).trans Qbp.symm)] [] ((Qbu (Qdz (Qbv (Qbs (Qbr (Qdy (Qbt (fs99 .nil)))))))):FnsOk Tryz.prog _) 1 3 Tryz.func39 eo39 2000 [lc 2,.row (Qab 0 8),.row (Qab 8 8)] (.tup [.row (flA [zGA,zGA]),lc 4])))
theorem pMid2_q0(z w:QC) :(wq63 w) - (wq64 z)=Qdk z w:=by
 simp only[wq63,wq64,Qdk,Qdl,Qdm,Qdn,up0,up1,up2,up3,Qbx]<;>grind
theorem pMid2_q1(z w:QC) :wq65 z w=Qdl z w:=by
 simp only[wq65,Qdk,Qdl,Qdm,Qdn,up0,up1,up2,up3,Qbx]<;>grind
theorem pMid2_q2(z w:QC) :wq66 z w=Qdm z w:=by
 simp only[wq66,Qdk,Qdl,Qdm,Qdn,up0,up1,up2,up3,Qbx]<;>grind
theorem pMid2_q3(z w:QC) :wq67 z w=Qdn z w:=by
 simp only[wq67,Qdk,Qdl,Qdm,Qdn,up0,up1,up2,up3,Qbx]<;>grind
theorem pMid2'(z w:QC)(b_z:Qaf z)(b_w:Qaf w)(hz:¬((((1:Rat) - (nm z)).num.sign)≤0))(hw:¬((((1:Rat) - (nm w)).num.sign)≤0))(hne:¬(z=w)):Qah Tryz.prog true 39 [.c (gl (.int .i64 2)),.row ((Qae z).cells),.row ((Qae w).cells)] (if CirS (Qdk z w) (Qdl z w) (Qdm z w) (Qdn z w) then .tup [.row (cirF (Qdk z w) (Qdl z w) (Qdm z w) (Qdn z w)),.c (gl (.int .i64 0))] else .tup [.row (zGG++zGG),.c (gl (.int .i64 4))]):=by
 have k_:=pMid2 z w b_z b_w hz hw hne
 simp only[pMid2_q0 z w ,pMid2_q1 z w ,pMid2_q2 z w ,pMid2_q3 z w ] at k_
 exact k_
def wq68(w:QC):Rat:=((1:Rat) - (nm w))*(1:Rat)
theorem wq68_b0(w:QC){k:Nat}(b_w:ZL w k):RL (wq68 w) (4*k+6):=(RL_mul (RL_sub (rj 1) (Qal b_w)) (rj 1)).mn
def wq69(z:QC):Rat:=(-((1:Rat) - (nm z)))*(1:Rat)
theorem wq69_b0(z:QC){k:Nat}(b_z:ZL z k):RL (wq69 z) (4*k+6):=(RL_mul (RL_neg (RL_sub (rj 1) (Qal b_z))) (rj 1)).mn
def wq70(z w:QC):Rat:=(-((1:Rat) - (nm z)))*(-w.re)
theorem wq70_b0(z w:QC){k:Nat}(b_z:ZL z k)(b_w:ZL w k):RL (wq70 z w) (5*k+4):=(RL_mul (RL_neg (RL_sub (rj 1) (Qal b_z))) (RL_neg b_w.1)).mn
def wq71(z w:QC):Rat:=(((1:Rat) - (nm w))*(-z.re))+(wq70 z w)
theorem wq71_b0(z w:QC){k:Nat}(b_z:ZL z k)(b_w:ZL w k):RL (wq71 z w) (10*k+9):=(RL_add (RL_mul (RL_sub (rj 1) (Qal b_w)) (RL_neg b_z.1)) (wq70_b0 z w b_z b_w)).mn
def wq72(z w:QC):Rat:=(((1:Rat) - (nm w))*z.im)+((-((1:Rat) - (nm z)))*w.im)
theorem wq72_b0(z w:QC){k:Nat}(b_z:ZL z k)(b_w:ZL w k):RL (wq72 z w) (10*k+9):=(RL_add (RL_mul (RL_sub (rj 1) (Qal b_w)) b_z.2) (RL_mul (RL_neg (RL_sub (rj 1) (Qal b_z))) b_w.2)).mn
def wq73(z w:QC):Rat:=(-((1:Rat) - (nm z)))*(nm w)
theorem wq73_b0(z w:QC){k:Nat}(b_z:ZL z k)(b_w:ZL w k):RL (wq73 z w) (8*k+5):=(RL_mul (RL_neg (RL_sub (rj 1) (Qal b_z))) (Qal b_w)).mn
def wq74(z w:QC):Rat:=(((1:Rat) - (nm w))*(nm z))+(wq73 z w)
theorem wq74_b0(z w:QC){k:Nat}(b_z:ZL z k)(b_w:ZL w k):RL (wq74 z w) (16*k+11):=(RL_add (RL_mul (RL_sub (rj 1) (Qal b_w)) (Qal b_z)) (wq73_b0 z w b_z b_w)).mn
theorem mid2_d(z w:QC)(hz:¬((((1:Rat) - (nm z)).num.sign)≤0))(hw:¬((((1:Rat) - (nm w)).num.sign)≤0))(hne:¬(z=w)):0<Qbw ((wq68 w)+(wq69 z)) (wq71 z w) (wq72 z w) (wq74 z w) ((wq68 w)+(wq69 z)) (wq71 z w) (wq72 z w) (wq74 z w):=by
 rw[show((wq68 w)+(wq69 z))=Qdk z w from by simp only[wq68,wq69,Qdk,up0,up1,up2,up3,Qbx]<;>grind,show(wq71 z w)=Qdl z w from by simp only[wq71,wq70,Qdl,up0,up1,up2,up3,Qbx]<;>grind,show(wq72 z w)=Qdm z w from by simp only[wq72,Qdm,up0,up1,up2,up3,Qbx]<;>grind,show(wq74 z w)=Qdn z w from by simp only[wq74,wq73,Qdn,up0,up1,up2,up3,Qbx]<;>grind]; exact midP2 (Qbl hz) (Qbl hw) hne
theorem dMid2(z w:QC)(b_z:ZL z 1024)(b_w:ZL w 1024)(hz:¬((((1:Rat) - (nm z)).num.sign)≤0))(hw:¬((((1:Rat) - (nm w)).num.sign)≤0))(hne:¬(z=w)):Qah Tryz.prog true 49 [.c (gl (.int .i64 2)),.row (rG z),.row (rG w)] (.r (.row (cirF ((wq68 w)+(wq69 z)) (wq71 z w) (wq72 z w) (wq74 z w)))) :=
  Qas (L := [cG z,cG w,cF (1 : Rat),cF (-z.re),cF (nm z),cF (-w.re),cF (nm w),cF ((1 : Rat) - (nm w)),cF ((1 : Rat) - (nm z)),cF (-((1 : Rat) - (nm z))),cF (wq68 w),cF (wq69 z),cF ((wq68 w) + (wq69 z)),cF (((1 : Rat) - (nm w)) * (-z.re)),cF (wq70 z w),cF (wq71 z w),cF (((1 : Rat) - (nm w)) * z.im),cF ((-((1 : Rat) - (nm z))) * w.im),cF (wq72 z w),cF (((1 : Rat) - (nm w)) * (nm z)),cF (wq73 z w),cF (wq74 z w),cirF ((wq68 w) + (wq69 z)) (wq71 z w) (wq72 z w) (wq74 z w)].flatten) tys_ok mixed
     [gs (Qcl 1 (by decide) (by decide)) [lc 1] (rQ 12),gs (Qcw z.re) [.row (qS 0)] (rQ 15),gs (Qcp z b_z.mn) [.row (gR 0)] (rQ 18),gs (Qcw w.re) [.row (qS 6)] (rQ 21),gs (Qcp w b_w.mn) [.row (gR 6)] (rQ 24),gs (Qaw (1:Rat) (nm w) (ri 1) ((Qal b_w).mn)) [.row (qS 12),.row (qS 24)] (rQ 27),gs (Qaw (1:Rat) (nm z) (ri 1) ((Qal b_z).mn)) [.row (qS 12),.row (qS 18)] (rQ 30),gs (Qcw ((1:Rat) - (nm z))) [.row (qS 30)] (rQ 33),gs (Qai ((1:Rat) - (nm w)) (1:Rat) ((RL_sub (rj 1) (Qal b_w)).mn) (ri 1)) [.row (qS 27),.row (qS 12)] (rQ 36),gs (Qai (-((1:Rat) - (nm z))) (1:Rat) ((RL_neg (RL_sub (rj 1) (Qal b_z))).mn) (ri 1)) [.row (qS 33),.row (qS 12)] (rQ 39),gs (Qbi (wq68 w) (wq69 z) ((wq68_b0 w b_w).mn) ((wq69_b0 z b_z).mn)) [.row (qS 36),.row (qS 39)] (rQ 42),gs (Qai ((1:Rat) - (nm w)) (-z.re) ((RL_sub (rj 1) (Qal b_w)).mn) ((RL_neg b_z.1).mn)) [.row (qS 27),.row (qS 15)] (rQ 45),gs (Qai (-((1:Rat) - (nm z))) (-w.re) ((RL_neg (RL_sub (rj 1) (Qal b_z))).mn) ((RL_neg b_w.1).mn)) [.row (qS 33),.row (qS 21)] (rQ 48),gs (Qbi (((1:Rat) - (nm w))*(-z.re)) (wq70 z w) ((RL_mul (RL_sub (rj 1) (Qal b_w)) (RL_neg b_z.1)).mn) ((wq70_b0 z w b_z b_w).mn)) [.row (qS 45),.row (qS 48)] (rQ 51),gs (Qai ((1:Rat) - (nm w)) z.im ((RL_sub (rj 1) (Qal b_w)).mn) (b_z.2.mn)) [.row (qS 27),.row (qS 3)] (rQ 54),gs (Qai (-((1:Rat) - (nm z))) w.im ((RL_neg (RL_sub (rj 1) (Qal b_z))).mn) (b_w.2.mn)) [.row (qS 33),.row (qS 9)] (rQ 57),gs (Qbi (((1:Rat) - (nm w))*z.im) ((-((1:Rat) - (nm z)))*w.im) ((RL_mul (RL_sub (rj 1) (Qal b_w)) b_z.2).mn) ((RL_mul (RL_neg (RL_sub (rj 1) (Qal b_z))) b_w.2).mn)) [.row (qS 54),.row (qS 57)] (rQ 60),gs (Qai ((1:Rat) - (nm w)) (nm z) ((RL_sub (rj 1) (Qal b_w)).mn) ((Qal b_z).mn)) [.row (qS 27),.row (qS 18)] (rQ 63),gs (Qai (-((1:Rat) - (nm z))) (nm w) ((RL_neg (RL_sub (rj 1) (Qal b_z))).mn) ((Qal b_w).mn)) [.row (qS 33),.row (qS 24)] (rQ 66),gs (Qbi (((1:Rat) - (nm w))*(nm z)) (wq73 z w) ((RL_mul (RL_sub (rj 1) (Qal b_w)) (Qal b_z)).mn) ((wq73_b0 z w b_z b_w).mn)) [.row (qS 63),.row (qS 66)] (rQ 69),gs (dCirc ((wq68 w)+(wq69 z)) (wq71 z w) (wq72 z w) (wq74 z w) ((RL_add (wq68_b0 w b_w) (wq69_b0 z b_z)).mn) ((wq71_b0 z w b_z b_w).mn) ((wq72_b0 z w b_z b_w).mn) ((wq74_b0 z w b_z b_w).mn) (mid2_d z w hz hw hne)) [.row [.sym 42,.sym 43,.lit (.bool false),.sym 44,.sym 51,.sym 52,.lit (.bool false),.sym 53,.sym 60,.sym 61,.lit (.bool false),.sym 62,.sym 69,.sym 70,.lit (.bool false),.sym 71]] (.tup [.row (Qab 72 16),.c (.lit (.bool true))])]
     [] [] ((Qcv (Qcn (fs117 (fs143 .nil)))):FnsOk Tryz.prog _) 1 3 Tryz.func49 eo49 2000 [lc 2,.row (gR 0),.row (gR 6)] (.r (.row (Qab 72 16)))
theorem dMid2_q0(z w:QC) :(wq68 w)+(wq69 z)=Qdk z w:=by
 simp only[wq68,wq69,Qdk,Qdl,Qdm,Qdn,up0,up1,up2,up3,Qbx]<;>grind
theorem dMid2_q1(z w:QC) :wq71 z w=Qdl z w:=by
 simp only[wq71,wq70,Qdk,Qdl,Qdm,Qdn,up0,up1,up2,up3,Qbx]<;>grind
theorem dMid2_q2(z w:QC) :wq72 z w=Qdm z w:=by
 simp only[wq72,Qdk,Qdl,Qdm,Qdn,up0,up1,up2,up3,Qbx]<;>grind
theorem dMid2_q3(z w:QC) :wq74 z w=Qdn z w:=by
 simp only[wq74,wq73,Qdk,Qdl,Qdm,Qdn,up0,up1,up2,up3,Qbx]<;>grind
theorem dMid2'(z w:QC)(b_z:ZL z 1024)(b_w:ZL w 1024)(hz:¬((((1:Rat) - (nm z)).num.sign)≤0))(hw:¬((((1:Rat) - (nm w)).num.sign)≤0))(hne:¬(z=w)):Qah Tryz.prog true 49 [.c (gl (.int .i64 2)),.row (rG z),.row (rG w)] (.r (.row (cirF (Qdk z w) (Qdl z w) (Qdm z w) (Qdn z w)))):=by
 have k_:=dMid2 z w b_z b_w hz hw hne
 simp only[dMid2_q0 z w ,dMid2_q1 z w ,dMid2_q2 z w ,dMid2_q3 z w ] at k_
 exact k_
def wq75(z w:QC):Rat:=up0 (1:Rat) (0:Rat) (0:Rat) (1:Rat) (-z.re) z.im (1:Rat) (-w.re) w.im
theorem wq75_b0(z w:QC)(b_z:Qaf z)(b_w:Qaf w):RL (wq75 z w) 163960:=(pl_up_b0_1' (1:Rat) (0:Rat) (0:Rat) (-1:Rat) (1:Rat) (-z.re) z.im (nm z) (1:Rat) (-w.re) w.im (nm w) (ri 1) (ri 0) (ri 0) (ri (-1)) (ri 1) ((RL_neg ((Qaa b_z).1)).mn) (((Qaa b_z).2).mn) (Qal (Qaa b_z)) (ri 1) ((RL_neg ((Qaa b_w).1)).mn) (((Qaa b_w).2).mn) (Qal (Qaa b_w))).mn
def wq76(z w:QC):Rat:=up1 (1:Rat) (0:Rat) (-1:Rat) (1:Rat) z.im (nm z) (1:Rat) w.im (nm w)
theorem wq76_b0(z w:QC)(b_z:Qaf z)(b_w:Qaf w):RL (wq76 z w) 196762:=(pl_up_b0_2' (1:Rat) (0:Rat) (0:Rat) (-1:Rat) (1:Rat) (-z.re) z.im (nm z) (1:Rat) (-w.re) w.im (nm w) (ri 1) (ri 0) (ri 0) (ri (-1)) (ri 1) ((RL_neg ((Qaa b_z).1)).mn) (((Qaa b_z).2).mn) (Qal (Qaa b_z)) (ri 1) ((RL_neg ((Qaa b_w).1)).mn) (((Qaa b_w).2).mn) (Qal (Qaa b_w))).mn
def wq77(z w:QC):Rat:=up2 (1:Rat) (0:Rat) (-1:Rat) (1:Rat) (-z.re) (nm z) (1:Rat) (-w.re) (nm w)
theorem wq77_b0(z w:QC)(b_z:Qaf z)(b_w:Qaf w):RL (wq77 z w) 196762:=(pl_up_b0_3' (1:Rat) (0:Rat) (0:Rat) (-1:Rat) (1:Rat) (-z.re) z.im (nm z) (1:Rat) (-w.re) w.im (nm w) (ri 1) (ri 0) (ri 0) (ri (-1)) (ri 1) ((RL_neg ((Qaa b_z).1)).mn) (((Qaa b_z).2).mn) (Qal (Qaa b_z)) (ri 1) ((RL_neg ((Qaa b_w).1)).mn) (((Qaa b_w).2).mn) (Qal (Qaa b_w))).mn
def wq78(z w:QC):Rat:=up3 (0:Rat) (0:Rat) (-1:Rat) (-z.re) z.im (nm z) (-w.re) w.im (nm w)
theorem wq78_b0(z w:QC)(b_z:Qaf z)(b_w:Qaf w):RL (wq78 z w) 163960:=(pl_up_b0_4' (1:Rat) (0:Rat) (0:Rat) (-1:Rat) (1:Rat) (-z.re) z.im (nm z) (1:Rat) (-w.re) w.im (nm w) (ri 1) (ri 0) (ri 0) (ri (-1)) (ri 1) ((RL_neg ((Qaa b_z).1)).mn) (((Qaa b_z).2).mn) (Qal (Qaa b_z)) (ri 1) ((RL_neg ((Qaa b_w).1)).mn) (((Qaa b_w).2).mn) (Qal (Qaa b_w))).mn
theorem lin2_p(z w:QC)(hz:¬((((1:Rat) - (nm z)).num.sign)≤0))(hw:¬((((1:Rat) - (nm w)).num.sign)≤0))(hne:¬(z=w)):0<Qbw (wq75 z w) (wq76 z w) (wq77 z w) (wq78 z w) (wq75 z w) (wq76 z w) (wq77 z w) (wq78 z w):=by
 rw[show(wq75 z w)=Qdf z w from by simp only[wq75,Qdf,up0,up1,up2,up3,Qbx]<;>grind,show(wq76 z w)=Qdb z w from by simp only[wq76,Qdb,up0,up1,up2,up3,Qbx]<;>grind,show(wq77 z w)=Qda z w from by simp only[wq77,Qda,up0,up1,up2,up3,Qbx]<;>grind,show(wq78 z w)=Qdq z w from by simp only[wq78,Qdq,up0,up1,up2,up3,Qbx]<;>grind]; exact linP2 (Qbl hz) (Qbl hw) hne
theorem pLin2(z w:QC)(b_z:Qaf z)(b_w:Qaf w)(hz:¬((((1:Rat) - (nm z)).num.sign)≤0))(hw:¬((((1:Rat) - (nm w)).num.sign)≤0))(hne:¬(z=w)):Qah Tryz.prog true 38 [.c (gl (.int .i64 2)),.row ((Qae z).cells),.row ((Qae w).cells)] (if CirS (wq75 z w) (wq76 z w) (wq77 z w) (wq78 z w) then .tup [.row (cirF (wq75 z w) (wq76 z w) (wq77 z w) (wq78 z w)),.c (gl (.int .i64 0))] else .tup [.row (zGG++zGG),.c (gl (.int .i64 4))]) :=
  have t1:=pGInt 0 1 (by decide) (by decide) (by decide) (by decide)
  have t2:=pGInt 0 0 (by decide) (by decide) (by decide) (by decide)
  have t3:=Qbb 1 1 (by decide) (by decide) (by decide) (by decide) (by decide)
  have t4:=Qbn z ((Qaa b_z).mn)
  have t5:=Qay (1:Rat) (nm z) (ri 1) ((Qal (Qaa b_z)).mn)
  have t6:=Qan ((1:Rat) - (nm z))
  have t7:=Qbn w ((Qaa b_w).mn)
  have t8:=Qay (1:Rat) (nm w) (ri 1) ((Qal (Qaa b_w)).mn)
  have t9:=Qan ((1:Rat) - (nm w))
  have t10:=Qbb 0 1 (by decide) (by decide) (by decide) (by decide) (by decide)
  have t11:=Qbb (-1) 1 (by decide) (by decide) (by decide) (by decide) (by decide)
  have t12:=Qcy z ((Qaa b_z).mn)
  have t13:=Qcy w ((Qaa b_w).mn)
  have t14:=pl_up' (1:Rat) (0:Rat) (0:Rat) (-1:Rat) (1:Rat) (-z.re) z.im (nm z) (1:Rat) (-w.re) w.im (nm w) (ri 1) (ri 0) (ri 0) (ri (-1)) (ri 1) ((RL_neg ((Qaa b_z).1)).mn) (((Qaa b_z).2).mn) ((Qal (Qaa b_z)).mn) (ri 1) ((RL_neg ((Qaa b_w).1)).mn) (((Qaa b_w).2).mn) ((Qal (Qaa b_w)).mn)
  have t15:=pCirc (wq75 z w) (wq76 z w) (wq77 z w) (wq78 z w) ((wq75_b0 z w b_z b_w).mn) ((wq76_b0 z w b_z b_w).mn) ((wq77_b0 z w b_z b_w).mn) ((wq78_b0 z w b_z b_w).mn) (by_ne (lin2_p z w hz hw hne))
  (Classical.em (CirS (wq75 z w) (wq76 z w) (wq77 z w) (wq78 z w))).elim (fun h0 => .it h0 (Qas (L := [(Qae z).cells,(Qae w).cells,(Qae (⟨0,1⟩ : QC)).cells,(Qae (⟨0,0⟩ : QC)).cells,cn z,[gr (1 : Rat)],[gr (nm z)],[gr ((1 : Rat) - (nm z))],[gx (.int .i64 (((1 : Rat) - (nm z)).num.sign))],cn w,[gr (nm w)],[gr ((1 : Rat) - (nm w))],[gx (.int .i64 (((1 : Rat) - (nm w)).num.sign))],[gr (0 : Rat)],[gr (-1 : Rat)],[gr (1 : Rat)],[gr (-z.re)],[gr z.im],[gr (nm z)],[gr (1 : Rat)],[gr (-w.re)],[gr w.im],[gr (nm w)],[gr (wq75 z w)],[gr (wq76 z w)],[gr (wq77 z w)],[gr (wq78 z w)],cirF (wq75 z w) (wq76 z w) (wq77 z w) (wq78 z w)].flatten) tys_ok mixed
     [gs (t1) [lc 0,lc 1] (.r (.row (Qab 16 8))),gs (t2) [lc 0,lc 0] (.r (.row (Qab 24 8))),gs (Qbm z b_z) [.row (Qab 0 8)] (.tup [sy [32,33],.c (.lit (.bool true))]),gs (t3) [lc 1,lc 1] (rS 34),gs (t4) [sy [32,33]] (rS 35),gs (t5) [cS 34,cS 35] (rS 36),gs (t6) [cS 36] (rS 37),gs (Qbm w b_w) [.row (Qab 8 8)] (.tup [sy [38,39],.c (.lit (.bool true))]),gs (t7) [sy [38,39]] (rS 40),gs (t8) [cS 34,cS 40] (rS 41),gs (t9) [cS 41] (rS 42),gs (t10) [lc 0,lc 1] (rS 43),gs (t11) [lc (-1),lc 1] (rS 44),gs (t12) [sy [32,33]] (.r (.row (Qab 45 4))),gs (t13) [sy [38,39]] (.r (.row (Qab 49 4))),
      gsG (t14) 34 ⟨flA [[.sym 34,.sym 43],Qab 43 10],143,none⟩ [.c (.sl 0 0 3 3)] (.r (.row (Qab 53 4))),gs (t15.t h0) [.row (Qab 53 4)] (.tup [.row (Qab 57 16),lc 0])]
     [bI .leq 3 (.sym 37) (li 0) (((1:Rat) - (nm z)).num.sign) 0 false (cbF hz),bI .leq 3 (.sym 42) (li 0) (((1:Rat) - (nm w)).num.sign) 0 false (cbF hw),bG (.row (Qab 0 8)) (.row (Qab 8 8)) (Qae z) (Qae w) false ((fI hne).trans Qbp.symm)] [] ((Qbu (Qdz (Qbv (Qbs (Qbr (Qdy (Qbt (fs99 .nil)))))))):FnsOk Tryz.prog _) 1 3 Tryz.func38 eo38 2000 [lc 2,.row (Qab 0 8),.row (Qab 8 8)] (.tup [.row (Qab 57 16),lc 0])))
   (fun h0=>.ie (fun h=>h0 h) (Qas (L:=[(Qae z).cells,(Qae w).cells,(Qae (⟨0,1⟩:QC)).cells,(Qae (⟨0,0⟩:QC)).cells,cn z,[gr (1:Rat)],[gr (nm z)],[gr ((1:Rat) - (nm z))],[gx (.int .i64 (((1:Rat) - (nm z)).num.sign))],cn w,[gr (nm w)],[gr ((1:Rat) - (nm w))],[gx (.int .i64 (((1:Rat) - (nm w)).num.sign))],[gr (0:Rat)],[gr (-1:Rat)],[gr (1:Rat)],[gr (-z.re)],[gr z.im],[gr (nm z)],[gr (1:Rat)],[gr (-w.re)],[gr w.im],[gr (nm w)],[gr (wq75 z w)],[gr (wq76 z w)],[gr (wq77 z w)],[gr (wq78 z w)]].flatten) tys_ok mixed
     [gs (t1) [lc 0,lc 1] (.r (.row (Qab 16 8))),gs (t2) [lc 0,lc 0] (.r (.row (Qab 24 8))),gs (Qbm z b_z) [.row (Qab 0 8)] (.tup [sy [32,33],.c (.lit (.bool true))]),gs (t3) [lc 1,lc 1] (rS 34),gs (t4) [sy [32,33]] (rS 35),gs (t5) [cS 34,cS 35] (rS 36),gs (t6) [cS 36] (rS 37),gs (Qbm w b_w) [.row (Qab 8 8)] (.tup [sy [38,39],.c (.lit (.bool true))]),gs (t7) [sy [38,39]] (rS 40),gs (t8) [cS 34,cS 40] (rS 41),gs (t9) [cS 41] (rS 42),gs (t10) [lc 0,lc 1] (rS 43),gs (t11) [lc (-1),lc 1] (rS 44),gs (t12) [sy [32,33]] (.r (.row (Qab 45 4))),gs (t13) [sy [38,39]] (.r (.row (Qab 49 4))),
      gsG (t14) 34 ⟨flA [[.sym 34,.sym 43],Qab 43 10],143,none⟩ [.c (.sl 0 0 3 3)] (.r (.row (Qab 53 4))),gs (t15.f h0) [.row (Qab 53 4)] (.tup [.row (flA [zGA,zGA]),lc 4])]
     [bI .leq 3 (.sym 37) (li 0) (((1:Rat) - (nm z)).num.sign) 0 false (cbF hz),bI .leq 3 (.sym 42) (li 0) (((1:Rat) - (nm w)).num.sign) 0 false (cbF hw),bG (.row (Qab 0 8)) (.row (Qab 8 8)) (Qae z) (Qae w) false ((fI hne).trans Qbp.symm)] [] ((Qbu (Qdz (Qbv (Qbs (Qbr (Qdy (Qbt (fs99 .nil)))))))):FnsOk Tryz.prog _) 1 3 Tryz.func38 eo38 2000 [lc 2,.row (Qab 0 8),.row (Qab 8 8)] (.tup [.row (flA [zGA,zGA]),lc 4])))
theorem pLin2_q0(z w:QC) :wq75 z w=Qdf z w:=by
 simp only[wq75,Qdf,Qdb,Qda,Qdq,up0,up1,up2,up3,Qbx]<;>grind
theorem pLin2_q1(z w:QC) :wq76 z w=Qdb z w:=by
 simp only[wq76,Qdf,Qdb,Qda,Qdq,up0,up1,up2,up3,Qbx]<;>grind
theorem pLin2_q2(z w:QC) :wq77 z w=Qda z w:=by
 simp only[wq77,Qdf,Qdb,Qda,Qdq,up0,up1,up2,up3,Qbx]<;>grind
theorem pLin2_q3(z w:QC) :wq78 z w=Qdq z w:=by
 simp only[wq78,Qdf,Qdb,Qda,Qdq,up0,up1,up2,up3,Qbx]<;>grind
theorem pLin2'(z w:QC)(b_z:Qaf z)(b_w:Qaf w)(hz:¬((((1:Rat) - (nm z)).num.sign)≤0))(hw:¬((((1:Rat) - (nm w)).num.sign)≤0))(hne:¬(z=w)):Qah Tryz.prog true 38 [.c (gl (.int .i64 2)),.row ((Qae z).cells),.row ((Qae w).cells)] (if CirS (Qdf z w) (Qdb z w) (Qda z w) (Qdq z w) then .tup [.row (cirF (Qdf z w) (Qdb z w) (Qda z w) (Qdq z w)),.c (gl (.int .i64 0))] else .tup [.row (zGG++zGG),.c (gl (.int .i64 4))]):=by
 have k_:=pLin2 z w b_z b_w hz hw hne
 simp only[pLin2_q0 z w ,pLin2_q1 z w ,pLin2_q2 z w ,pLin2_q3 z w ] at k_
 exact k_
def wq79(z w:QC):Rat:=up0 (1:Rat) ((⟨0,0⟩:QC).re) ((⟨0,0⟩:QC).im) (1:Rat) (-z.re) z.im (1:Rat) (-w.re) w.im
theorem wq79_b0(z w:QC){k:Nat}(b_z:ZL z k)(b_w:ZL w k):RL (wq79 z w) (60*k+15398):=(dUp_b0_1' (1:Rat) ((⟨0,0⟩:QC).re) ((⟨0,0⟩:QC).im) (-1:Rat) (1:Rat) (-z.re) z.im (nm z) (1:Rat) (-w.re) w.im (nm w) (ri 1) (((Qaa (Qau (by decide +kernel))).1).mn) (((Qaa (Qau (by decide +kernel))).2).mn) (ri (-1)) (ri 1) ((RL_neg b_z.1).mn) (b_z.2.mn) ((Qal b_z).upby 1023) (ri 1) ((RL_neg b_w.1).mn) (b_w.2.mn) ((Qal b_w).mn)).mn
def wq80(z w:QC):Rat:=up1 (1:Rat) ((⟨0,0⟩:QC).im) (-1:Rat) (1:Rat) z.im (nm z) (1:Rat) w.im (nm w)
theorem wq80_b0(z w:QC){k:Nat}(b_z:ZL z k)(b_w:ZL w k):RL (wq80 z w) (60*k+15398):=(dUp_b0_2' (1:Rat) ((⟨0,0⟩:QC).re) ((⟨0,0⟩:QC).im) (-1:Rat) (1:Rat) (-z.re) z.im (nm z) (1:Rat) (-w.re) w.im (nm w) (ri 1) (((Qaa (Qau (by decide +kernel))).1).mn) (((Qaa (Qau (by decide +kernel))).2).mn) (ri (-1)) (ri 1) ((RL_neg b_z.1).mn) (b_z.2.mn) ((Qal b_z).upby 1023) (ri 1) ((RL_neg b_w.1).mn) (b_w.2.mn) ((Qal b_w).mn)).mn
def wq81(z w:QC):Rat:=up2 (1:Rat) ((⟨0,0⟩:QC).re) (-1:Rat) (1:Rat) (-z.re) (nm z) (1:Rat) (-w.re) (nm w)
theorem wq81_b0(z w:QC){k:Nat}(b_z:ZL z k)(b_w:ZL w k):RL (wq81 z w) (60*k+15398):=(dUp_b0_3' (1:Rat) ((⟨0,0⟩:QC).re) ((⟨0,0⟩:QC).im) (-1:Rat) (1:Rat) (-z.re) z.im (nm z) (1:Rat) (-w.re) w.im (nm w) (ri 1) (((Qaa (Qau (by decide +kernel))).1).mn) (((Qaa (Qau (by decide +kernel))).2).mn) (ri (-1)) (ri 1) ((RL_neg b_z.1).mn) (b_z.2.mn) ((Qal b_z).upby 1023) (ri 1) ((RL_neg b_w.1).mn) (b_w.2.mn) ((Qal b_w).mn)).mn
def wq82(z w:QC):Rat:=up3 ((⟨0,0⟩:QC).re) ((⟨0,0⟩:QC).im) (-1:Rat) (-z.re) z.im (nm z) (-w.re) w.im (nm w)
theorem wq82_b0(z w:QC){k:Nat}(b_z:ZL z k)(b_w:ZL w k):RL (wq82 z w) (60*k+15398):=(dUp_b0_4' (1:Rat) ((⟨0,0⟩:QC).re) ((⟨0,0⟩:QC).im) (-1:Rat) (1:Rat) (-z.re) z.im (nm z) (1:Rat) (-w.re) w.im (nm w) (ri 1) (((Qaa (Qau (by decide +kernel))).1).mn) (((Qaa (Qau (by decide +kernel))).2).mn) (ri (-1)) (ri 1) ((RL_neg b_z.1).mn) (b_z.2.mn) ((Qal b_z).upby 1023) (ri 1) ((RL_neg b_w.1).mn) (b_w.2.mn) ((Qal b_w).mn)).mn
theorem lin2_d(z w:QC)(hz:¬((((1:Rat) - (nm z)).num.sign)≤0))(hw:¬((((1:Rat) - (nm w)).num.sign)≤0))(hne:¬(z=w)):0<Qbw (wq79 z w) (wq80 z w) (wq81 z w) (wq82 z w) (wq79 z w) (wq80 z w) (wq81 z w) (wq82 z w):=by
 rw[show(wq79 z w)=Qdf z w from by simp only[wq79,Qdf,up0,up1,up2,up3,Qbx]<;>grind,show(wq80 z w)=Qdb z w from by simp only[wq80,Qdb,up0,up1,up2,up3,Qbx]<;>grind,show(wq81 z w)=Qda z w from by simp only[wq81,Qda,up0,up1,up2,up3,Qbx]<;>grind,show(wq82 z w)=Qdq z w from by simp only[wq82,Qdq,up0,up1,up2,up3,Qbx]<;>grind]; exact linP2 (Qbl hz) (Qbl hw) hne
theorem dLin2(z w:QC)(b_z:ZL z 1024)(b_w:ZL w 1024)(hz:¬((((1:Rat) - (nm z)).num.sign)≤0))(hw:¬((((1:Rat) - (nm w)).num.sign)≤0))(hne:¬(z=w)):Qah Tryz.prog true 47 [.c (gl (.int .i64 2)),.row (rG z),.row (rG w)] (.r (.row (cirF (wq79 z w) (wq80 z w) (wq81 z w) (wq82 z w)))) :=
  Qas (L := [cG z,cG w,cF (1 : Rat),(Qae (⟨0,0⟩ : QC)).cells,cF (-1 : Rat),cF (-z.re),cF (nm z),cF (-w.re),cF (nm w),cF (wq79 z w),cF (wq80 z w),cF (wq81 z w),cF (wq82 z w),cirF (wq79 z w) (wq80 z w) (wq81 z w) (wq82 z w)].flatten) tys_ok mixed
     [gs (Qcl 1 (by decide) (by decide)) [lc 1] (rQ 12),gs (rInt 0 0 (by decide) (by decide) (by decide) (by decide)) [lc 0,lc 0] (.r (.row (Qab 15 8))),gs (Qcl (-1) (by decide) (by decide)) [lc (-1)] (rQ 23),gs (Qcw z.re) [.row (qS 0)] (rQ 26),gs (Qcp z b_z.mn) [.row (gR 0)] (rQ 29),gs (Qcw w.re) [.row (qS 6)] (rQ 32),gs (Qcp w b_w.mn) [.row (gR 6)] (rQ 35),gs (dUp' (1:Rat) ((⟨0,0⟩:QC).re) ((⟨0,0⟩:QC).im) (-1:Rat) (1:Rat) (-z.re) z.im (nm z) (1:Rat) (-w.re) w.im (nm w) (ri 1) (((Qaa (Qau (by decide +kernel))).1).mn) (((Qaa (Qau (by decide +kernel))).2).mn) (ri (-1)) (ri 1) ((RL_neg b_z.1).mn) (b_z.2.mn) ((Qal b_z).mn) (ri 1) ((RL_neg b_w.1).mn) (b_w.2.mn) ((Qal b_w).mn)) [.row (flA [[.sym 12,.sym 13,.lit (.bool false)],Qab 14 11,[.lit (.bool false),.sym 25,.sym 12,.sym 13,.lit (.bool false),.sym 14,.sym 26,.sym 27,.lit (.bool false),.sym 28,.sym 3,.sym 4,.lit (.bool false),.sym 5,.sym 29,.sym 30,.lit (.bool false),.sym 31,.sym 12,.sym 13,.lit (.bool false),.sym 14,.sym 32,.sym 33,.lit (.bool false),.sym 34,.sym 9,.sym 10,.lit (.bool false),.sym 11,.sym 35,.sym 36,.lit (.bool false),.sym 37]])] (.r (.row (gL [38,44]))),gs (dCirc (wq79 z w) (wq80 z w) (wq81 z w) (wq82 z w) ((wq79_b0 z w b_z b_w).mn) ((wq80_b0 z w b_z b_w).mn) ((wq81_b0 z w b_z b_w).mn) ((wq82_b0 z w b_z b_w).mn) (lin2_d z w hz hw hne)) [.row (gL [38,44])] (.tup [.row (Qab 50 16),.c (.lit (.bool true))])]
     [] [] ((Qcv (Qcn (fs117 (fs95 (fs113 .nil))))):FnsOk Tryz.prog _) 1 3 Tryz.func47 eo47 2000 [lc 2,.row (gR 0),.row (gR 6)] (.r (.row (Qab 50 16)))
theorem dLin2_q0(z w:QC) :wq79 z w=Qdf z w:=by
 simp only[wq79,Qdf,Qdb,Qda,Qdq,up0,up1,up2,up3,Qbx]<;>grind
theorem dLin2_q1(z w:QC) :wq80 z w=Qdb z w:=by
 simp only[wq80,Qdf,Qdb,Qda,Qdq,up0,up1,up2,up3,Qbx]<;>grind
theorem dLin2_q2(z w:QC) :wq81 z w=Qda z w:=by
 simp only[wq81,Qdf,Qdb,Qda,Qdq,up0,up1,up2,up3,Qbx]<;>grind
theorem dLin2_q3(z w:QC) :wq82 z w=Qdq z w:=by
 simp only[wq82,Qdf,Qdb,Qda,Qdq,up0,up1,up2,up3,Qbx]<;>grind
theorem dLin2'(z w:QC)(b_z:ZL z 1024)(b_w:ZL w 1024)(hz:¬((((1:Rat) - (nm z)).num.sign)≤0))(hw:¬((((1:Rat) - (nm w)).num.sign)≤0))(hne:¬(z=w)):Qah Tryz.prog true 47 [.c (gl (.int .i64 2)),.row (rG z),.row (rG w)] (.r (.row (cirF (Qdf z w) (Qdb z w) (Qda z w) (Qdq z w)))):=by
 have k_:=dLin2 z w b_z b_w hz hw hne
 simp only[dLin2_q0 z w ,dLin2_q1 z w ,dLin2_q2 z w ,dLin2_q3 z w ] at k_
 exact k_
end Go.Proofs.YtmimficdpfmfgaaGreat
