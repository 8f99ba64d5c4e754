/- Laws for the walk. -/
import Derived.Test.YtmimficdpfmfgaaGreatZbk
set_option linter.unusedVariables false
set_option linter.unusedSimpArgs false
set_option maxHeartbeats 4000000
namespace Go.Proofs.YtmimficdpfmfgaaGreat
open Go.RowKit Tr
open Classical
theorem pHome(z:QC)(b_z:ZL z 1000000) :Qah Tryz.prog true 122 [.row (cn z)] (.r (.row (cn (⟨1,0⟩:QC)++cn ((⟨0,0⟩:QC) - z)++cn ((⟨0,0⟩:QC) - (cj z))++cn (⟨1,0⟩:QC)++[gl (.bool false)]))) :=
  Qav (L := [cn z,cn (⟨1,0⟩ : QC),cn ((⟨0,0⟩ : QC) - z),cn (cj z),cn ((⟨0,0⟩ : QC) - (cj z))].flatten) tys_ok mixed
     [gs (pNInt 1 0 (by decide) (by decide) (by decide) (by decide)) [lc 1,lc 0] (.r (sy [2,3])),gs (pNNeg z b_z.mn) [sy [0,1]] (.r (sy [4,5])),gs (Qcm z b_z.mn) [sy [0,1]] (.r (sy [6,7])),gs (pNNeg (cj z) ((Qap b_z).mn)) [sy [6,7]] (.r (sy [8,9]))]
     [] [] Tryz.func122 eo122 2000 [sy [0,1]] (.r (.row (flA [Qab 2 4,[.sym 8,.sym 9,.sym 2,.sym 3,.lit (.bool false)]])))
theorem Qat(z:QC){k:Nat}(b_z:ZL z k):ZL ((⟨0,0⟩:QC) - z) k:=(ZL_n0 b_z).mn
theorem Qar(z:QC){k:Nat}(b_z:ZL z k):ZL ((⟨0,0⟩:QC) - (cj z)) k:=(ZL_n0 (Qap b_z)).mn
def wq83(b c:QC):QC:=((⟨0,0⟩:QC) - b) / ((⟨0,0⟩:QC) - c)
def wq84(c:QC):QC:=((⟨0,0⟩:QC) - c) / ((⟨0,0⟩:QC) - c)
theorem eUndoC(a b c d:QC)(b_a:ZL a 200000000)(b_b:ZL b 200000000)(b_c:ZL c 200000000)(b_d:ZL d 200000000)(hc:¬(((⟨0,0⟩:QC) - c)=(⟨0,0⟩:QC))):Qah Tryz.prog true 123 [.row (cn a++cn b++cn c++cn d++[gl (.bool false)])] (.r (.row (cn (d / ((⟨0,0⟩:QC) - c))++cn (wq83 b c)++cn (wq84 c)++cn (a / ((⟨0,0⟩:QC) - c))++[gl (.bool false)]))) :=
  Qav (L := [cn a,cn b,cn c,cn d,cn ((⟨0,0⟩ : QC) - b),cn ((⟨0,0⟩ : QC) - c),cn (d / ((⟨0,0⟩ : QC) - c)),cn (wq83 b c),cn (wq84 c),cn (a / ((⟨0,0⟩ : QC) - c))].flatten) tys_ok mixed
     [gs (pNNeg b b_b.mn) [sy [2,3]] (.r (sy [8,9])),gs (pNNeg c b_c.mn) [sy [4,5]] (.r (sy [10,11])),gs (eNormCf d ((⟨0,0⟩:QC) - b) ((⟨0,0⟩:QC) - c) a b_d.mn ((ZL_n0 b_b).mn) ((ZL_n0 b_c).mn) b_a.mn hc) [.row (flA [Qab 6 6,[.sym 0,.sym 1,.lit (.bool false)]])] (.r (.row (flA [Qab 12 8,[.lit (.bool false)]])))]
     [] [] Tryz.func123 eo123 2000 [.row (flA [Qab 0 8,[.lit (.bool false)]])] (.r (.row (flA [Qab 12 8,[.lit (.bool false)]])))
theorem eUndo0(a b c d:QC)(b_a:ZL a 200000000)(b_b:ZL b 200000000)(b_c:ZL c 200000000)(b_d:ZL d 200000000)(hc:((⟨0,0⟩:QC) - c)=(⟨0,0⟩:QC))(ha:¬(a=(⟨0,0⟩:QC))):Qah Tryz.prog true 123 [.row (cn a++cn b++cn c++cn d++[gl (.bool false)])] (.r (.row (cn (d / a)++cn (((⟨0,0⟩:QC) - b) / a)++cn (((⟨0,0⟩:QC) - c) / a)++cn (a / a)++[gl (.bool false)]))) :=
  Qav (L := [cn a,cn b,cn c,cn d,cn ((⟨0,0⟩ : QC) - b),cn ((⟨0,0⟩ : QC) - c),cn (d / a),cn (((⟨0,0⟩ : QC) - b) / a),cn (((⟨0,0⟩ : QC) - c) / a),cn (a / a)].flatten) tys_ok mixed
     [gs (pNNeg b b_b.mn) [sy [2,3]] (.r (sy [8,9])),gs (pNNeg c b_c.mn) [sy [4,5]] (.r (sy [10,11])),gs (eNorm0f d ((⟨0,0⟩:QC) - b) ((⟨0,0⟩:QC) - c) a b_d.mn ((ZL_n0 b_b).mn) ((ZL_n0 b_c).mn) b_a.mn hc ha) [.row (flA [Qab 6 6,[.sym 0,.sym 1,.lit (.bool false)]])] (.r (.row (flA [Qab 12 8,[.lit (.bool false)]])))]
     [] [] Tryz.func123 eo123 2000 [.row (flA [Qab 0 8,[.lit (.bool false)]])] (.r (.row (flA [Qab 12 8,[.lit (.bool false)]])))
theorem eUndo(p:Q4)(hp:ZL4 p 200000000)(hd:dq p≠⟨0,0⟩):Qah Tryz.prog true 123 [.row (mR p false)] (.r (.row (mR (inv4 p) false))):=by
 obtain⟨m1,m2,m3,m4⟩:=hp
 obtain⟨a,b,c,d⟩:=p
 unfold inv4
 by_cases hc:((⟨0,0⟩:QC) - c)=⟨0,0⟩
 ·have e:by4 (adj4 (a,b,c,d))=a:=if_pos hc
  have k:a≠⟨0,0⟩:=dq_cd (adj_ne hd) hc
  unfold nm4
  rw[e]
  exact eUndo0 a b c d m1 m2 m3 m4 hc k
 ·have e:by4 (adj4 (a,b,c,d))=(⟨0,0⟩:QC) - c:=if_neg hc
  unfold nm4
  rw[e]
  exact eUndoC a b c d m1 m2 m3 m4 hc
theorem Qbq{p:Q4}{k:Nat}(h:ZL4 p k)(hd:dq p≠⟨0,0⟩):ZL4 (inv4 p) (8*k+2):=nm4_zl (p:=adj4 p) ⟨h.2.2.2,ZL_n0 h.2.1,ZL_n0 h.2.2.1,h.1⟩ (adj_ne hd)
theorem mat_nilC{P:Program}{hp:Bool}{f:FuncId}{x y z:QC}{g:GF}{r:FV}(h:Qah P hp f [.row (cn x++cn y++cn ⟨0,0⟩++cn z++[g])] r):Qah P hp f [.row (cn x++cn y++[gl .nilp,gl .nilp]++cn z++[g])] r :=
 ⟨h.ent,fun w A us hR hA hu=>by
  match us,hu with
  | [u],hu =>
   obtain⟨⟨vs,e,k⟩,_⟩:=hu
   obtain⟨u1,_,rfl,h1,k⟩:=Qds.1 k
   obtain⟨u2,_,rfl,h2,k⟩:=Qds.1 k
   obtain⟨u3,_,rfl,h3,k⟩:=Qds.1 k
   obtain⟨u4,_,rfl,h4,k⟩:=Qds.1 k
   obtain⟨u5,_,rfl,h5,k⟩:=Qds.1 k
   obtain⟨u6,_,rfl,h6,k⟩:=Qds.1 k
   exact h.ok w A [u] hR hA ⟨⟨_,e,h1,h2,h3,h4,.inl ⟨h5,rfl⟩,.inl ⟨h6,rfl⟩,k⟩,trivial⟩⟩
theorem rNmC(a b c d:QC)(t:Bool)(b_a:ZL a 1000000)(b_b:ZL b 1000000)(b_c:ZL c 1000000)(b_d:ZL d 1000000)(hc:¬(c=(⟨0,0⟩:QC))):Qah Tryz.prog true 83 [.row (rG a),.row (rG b),.row (rG c),.row (rG d),.c (gx (.bool t))] (.r (.row (rG (a / c)++rG (b / c)++rG (c / c)++rG (d / c)++[gx (.bool t)]))) :=
  Qav (L := [cG a,cG b,cG c,cG d,[gx (.bool t)],cG (a / c),cG (b / c),cG (c / c),cG (d / c)].flatten) tys_ok mixed
     [gs (rZero c false (fI hc)) [.row (gR 12)] (.r (.c (.lit (.bool false)))),gs (rOver a c b_a.mn b_c.mn hc) [.row (gR 0),.row (gR 12)] (.r (.row (gR 25))),gs (rOver b c b_b.mn b_c.mn hc) [.row (gR 6),.row (gR 12)] (.r (.row (gR 31))),gs (rOver c c b_c.mn b_c.mn hc) [.row (gR 12),.row (gR 12)] (.r (.row (gR 37))),gs (rOver d c b_d.mn b_c.mn hc) [.row (gR 18),.row (gR 12)] (.r (.row (gR 43)))]
     [] [] Tryz.func83 eo83 2000 [.row (gR 0),.row (gR 6),.row (gR 12),.row (gR 18),cS 24] (.r (.row (flA [gL [25,31,37,43],[.sym 24]])))
theorem rNm0(a b c d:QC)(t:Bool)(b_a:ZL a 1000000)(b_b:ZL b 1000000)(b_c:ZL c 1000000)(b_d:ZL d 1000000)(hc:c=(⟨0,0⟩:QC))(hd:¬(d=(⟨0,0⟩:QC))):Qah Tryz.prog true 83 [.row (rG a),.row (rG b),.row (rG c),.row (rG d),.c (gx (.bool t))] (.r (.row (rG (a / d)++rG (b / d)++rG (c / d)++rG (d / d)++[gx (.bool t)]))) :=
  Qav (L := [cG a,cG b,cG c,cG d,[gx (.bool t)],cG (a / d),cG (b / d),cG (c / d),cG (d / d)].flatten) tys_ok mixed
     [gs (rZero c true (tI hc)) [.row (gR 12)] (.r (.c (.lit (.bool true)))),gs (rOver a d b_a.mn b_d.mn hd) [.row (gR 0),.row (gR 18)] (.r (.row (gR 25))),gs (rOver b d b_b.mn b_d.mn hd) [.row (gR 6),.row (gR 18)] (.r (.row (gR 31))),gs (rOver c d b_c.mn b_d.mn hd) [.row (gR 12),.row (gR 18)] (.r (.row (gR 37))),gs (rOver d d b_d.mn b_d.mn hd) [.row (gR 18),.row (gR 18)] (.r (.row (gR 43)))]
     [] [] Tryz.func83 eo83 2000 [.row (gR 0),.row (gR 6),.row (gR 12),.row (gR 18),cS 24] (.r (.row (flA [gL [25,31,37,43],[.sym 24]])))
def mGt(p:Q4)(t:Bool):List GF:=rG p.1++rG p.2.1++rG p.2.2.1++rG p.2.2.2++[gx (.bool t)]
theorem rNorm4(p:Q4)(t:Bool)(hp:ZL4 p 1000000)(hd:dq p≠⟨0,0⟩):Qah Tryz.prog true 83 [G1 p.1,G1 p.2.1,G1 p.2.2.1,G1 p.2.2.2,.c (gx (.bool t))] (.r (.row (mGt (nm4 p) t))):=by
 obtain⟨m1,m2,m3,m4⟩:=hp
 obtain⟨a,b,c,d⟩:=p
 by_cases hc:c=⟨0,0⟩
 ·have e:by4 (a,b,c,d)=d:=if_pos hc
  have k:=dq_cd hd hc
  unfold nm4
  rw[e]
  exact rNm0 a b c d t m1 m2 m3 m4 hc k
 ·have e:by4 (a,b,c,d)=c:=if_neg hc
  unfold nm4
  rw[e]
  exact rNmC a b c d t m1 m2 m3 m4 hc
theorem dq_aff{q:Rat}{b:QC}(h:q≠0):dq ((⟨q,0⟩:QC),b,(⟨0,0⟩:QC),(⟨1,0⟩:QC))≠⟨0,0⟩:=fun e=>h (by
 have e1:=congrArg QC.re e
 simp only[dq,qsr,qmr] at e1
 grind)
theorem qne{x y:Rat}(hx:0<x)(hy:0<y):x / y≠0:=fun e=>by
 have h:=pne hx
 have k:=pne hy
 grind
def hm4(z:QC):Q4:=((⟨1,0⟩:QC),(⟨0,0⟩:QC) - z,(⟨0,0⟩:QC) - cj z,(⟨1,0⟩:QC))
theorem Qbj{z:QC}(h:0<1 - nm z):dq (hm4 z)≠⟨0,0⟩:=fun e=>by
 have e1:=congrArg QC.re e
 simp only[hm4,dq,cj,qsr,qmr,qsi] at e1
 unfold nm at h
 grind
theorem inv_dq{m:Q4}(hd:dq m≠⟨0,0⟩):dq (inv4 m)≠⟨0,0⟩:=dq_smul (u:=by4 (adj4 m)) (by unfold inv4; rw[←nm4_smul (adj_ne hd)]; exact adj_ne hd)
theorem nm4_dq{q:Q4}(h:dq q≠⟨0,0⟩):dq (nm4 q)≠⟨0,0⟩:=dq_smul (u:=by4 q) (by rw[←nm4_smul h]; exact h)
theorem mul_dq{p q:Q4}(h:dq p≠⟨0,0⟩)(k:dq q≠⟨0,0⟩):dq (mul4 p q)≠⟨0,0⟩:=by rw[dq_mul]; exact mul_ne h k
end Go.Proofs.YtmimficdpfmfgaaGreat
namespace Go.Proofs.YtmimficdpfmfgaaGreat
open Go.RowKit Tr
open Classical
def wq85(z w:QC):QC:=w - ((⟨(w.im / z.im),0⟩:QC)*z)
theorem wq85_b0(z w:QC)(b_z:Qaf z)(b_w:Qaf w)(hz:¬(z.im.num.sign≤0)):ZL (wq85 z w) 7170:=(Qch (Qaa b_w) (Qag (ZL_mk (Qeb (pne (Qbl hz)) (Qak w (Qaa b_w)) (Qak z (Qaa b_z))) RL_z0) (Qaa b_z))).mn
theorem pMov1(z w:QC)(b_z:Qaf z)(b_w:Qaf w)(hz:¬(z.im.num.sign≤0))(hw:¬(w.im.num.sign≤0)):Qah Tryz.prog true 37 [.c (gl (.int .i64 1)),.row ((Qae z).cells),.row ((Qae w).cells)] (if Sh4 (nm4 ((⟨(w.im / z.im),0⟩:QC),wq85 z w,(⟨0,0⟩:QC),(⟨1,0⟩:QC))) then .tup [.row ((Qae ((nm4 ((⟨(w.im / z.im),0⟩:QC),wq85 z w,(⟨0,0⟩:QC),(⟨1,0⟩:QC))).1)).cells++(Qae ((nm4 ((⟨(w.im / z.im),0⟩:QC),wq85 z w,(⟨0,0⟩:QC),(⟨1,0⟩:QC))).2.1)).cells++(Qae ((nm4 ((⟨(w.im / z.im),0⟩:QC),wq85 z w,(⟨0,0⟩:QC),(⟨1,0⟩:QC))).2.2.1)).cells++(Qae ((nm4 ((⟨(w.im / z.im),0⟩:QC),wq85 z w,(⟨0,0⟩:QC),(⟨1,0⟩:QC))).2.2.2)).cells++[gl (.bool false)]),.c (gl (.int .i64 0))] else .tup [.row (zGG++zGG++zGG++zGG++[gl (.bool false)]),.c (gl (.int .i64 4))]) :=
  have t1:=pGInt 0 1 (by decide) (by decide) (by decide) (by decide)
  have t2:=pGInt 0 0 (by decide) (by decide) (by decide) (by decide)
  have t3:=Qaz z ((Qaa b_z).mn)
  have t4:=Qaz w ((Qaa b_w).mn)
  have t5:=Qbe w.im z.im ((Qak w (Qaa b_w)).mn) ((Qak z (Qaa b_z)).mn) (pne (Qbl hz))
  have t6:=pEReal (w.im / z.im)
  have t7:=Qba (⟨(w.im / z.im),0⟩:QC) z (ZL_mk (Qeb (pne (Qbl hz)) (Qak w (Qaa b_w)) (Qak z (Qaa b_z))) RL_z0) (Qaa b_z) (by decide)
  have t8:=pNSub w ((⟨(w.im / z.im),0⟩:QC)*z) (Qaa b_w) (Qag (ZL_mk (Qeb (pne (Qbl hz)) (Qak w (Qaa b_w)) (Qak z (Qaa b_z))) RL_z0) (Qaa b_z)) (by decide)
  have t9:=pNInt 1 0 (by decide) (by decide) (by decide) (by decide)
  have t10:=mat_nilC (eTold false ((⟨(w.im / z.im),0⟩:QC),wq85 z w,(⟨0,0⟩:QC),(⟨1,0⟩:QC)) ⟨((ZL_mk (Qeb (pne (Qbl hz)) (Qak w (Qaa b_w)) (Qak z (Qaa b_z))) RL_z0).mn),((wq85_b0 z w b_z b_w hz).mn),(zk (⟨0,0⟩:QC)),(zk (⟨1,0⟩:QC))⟩ (dq_aff (qne (Qbl hw) (Qbl hz))))
  (Classical.em (Sh4 (nm4 ((⟨(w.im / z.im),0⟩ : QC),wq85 z w,(⟨0,0⟩ : QC),(⟨1,0⟩ : QC))))).elim (fun h0 => .it h0 (Qas (L := [(Qae z).cells,(Qae w).cells,(Qae (⟨0,1⟩ : QC)).cells,(Qae (⟨0,0⟩ : QC)).cells,cn z,[gr z.re],[gr z.im],[gx (.int .i64 z.im.num.sign)],cn w,[gr w.re],[gr w.im],[gx (.int .i64 w.im.num.sign)],[gr (w.im / z.im)],cn (⟨(w.im / z.im),0⟩ : QC),cn ((⟨(w.im / z.im),0⟩ : QC) * z),cn (wq85 z w),cn (⟨1,0⟩ : QC),(Qae ((nm4 ((⟨(w.im / z.im),0⟩ : QC),wq85 z w,(⟨0,0⟩ : QC),(⟨1,0⟩ : QC))).1)).cells,(Qae ((nm4 ((⟨(w.im / z.im),0⟩ : QC),wq85 z w,(⟨0,0⟩ : QC),(⟨1,0⟩ : QC))).2.1)).cells,(Qae ((nm4 ((⟨(w.im / z.im),0⟩ : QC),wq85 z w,(⟨0,0⟩ : QC),(⟨1,0⟩ : QC))).2.2.1)).cells,(Qae ((nm4 ((⟨(w.im / z.im),0⟩ : QC),wq85 z w,(⟨0,0⟩ : QC),(⟨1,0⟩ : QC))).2.2.2)).cells].flatten) tys_ok mixed
     [gs (t1) [lc 0,lc 1] (.r (.row (Qab 16 8))),gs (t2) [lc 0,lc 0] (.r (.row (Qab 24 8))),gs (Qbm z b_z) [.row (Qab 0 8)] (.tup [sy [32,33],.c (.lit (.bool true))]),gs (t3) [sy [32,33]] (.tup [cS 34,cS 35]),gs (Qan z.im) [cS 35] (rS 36),gs (Qbm w b_w) [.row (Qab 8 8)] (.tup [sy [37,38],.c (.lit (.bool true))]),gs (t4) [sy [37,38]] (.tup [cS 39,cS 40]),gs (Qan w.im) [cS 40] (rS 41),gs (t5) [cS 40,cS 35] (rS 42),gs (t6) [cS 42] (.r (sy [43,44])),gs (t7) [sy [43,44],sy [32,33]] (.r (sy [45,46])),gs (t8) [sy [37,38],sy [45,46]] (.r (sy [47,48])),gs (t9) [lc 1,lc 0] (.r (sy [49,50])),gs (t10.t h0) [.row [.sym 43,.sym 44,.sym 47,.sym 48,.lit .nilp,.lit .nilp,.sym 49,.sym 50,.lit (.bool false)]] (.tup [.row (flA [Qab 51 32,[.lit (.bool false)]]),lc 0])]
     [bI .leq 3 (.sym 36) (li 0) z.im.num.sign 0 false (cbF hz),bI .leq 3 (.sym 41) (li 0) w.im.num.sign 0 false (cbF hw)] [] ((Qbu (Qdz (Qbv (Qbs (Qbr (Qdy (Qbt (fs99 .nil)))))))):FnsOk Tryz.prog _) 1 3 Tryz.func37 eo37 2000 [lc 1,.row (Qab 0 8),.row (Qab 8 8)] (.tup [.row (flA [Qab 51 32,[.lit (.bool false)]]),lc 0])))
   (fun h0=>.ie (fun h=>h0 h) (Qas (L:=[(Qae z).cells,(Qae w).cells,(Qae (⟨0,1⟩:QC)).cells,(Qae (⟨0,0⟩:QC)).cells,cn z,[gr z.re],[gr z.im],[gx (.int .i64 z.im.num.sign)],cn w,[gr w.re],[gr w.im],[gx (.int .i64 w.im.num.sign)],[gr (w.im / z.im)],cn (⟨(w.im / z.im),0⟩:QC),cn ((⟨(w.im / z.im),0⟩:QC)*z),cn (wq85 z w),cn (⟨1,0⟩:QC)].flatten) tys_ok mixed
     [gs (t1) [lc 0,lc 1] (.r (.row (Qab 16 8))),gs (t2) [lc 0,lc 0] (.r (.row (Qab 24 8))),gs (Qbm z b_z) [.row (Qab 0 8)] (.tup [sy [32,33],.c (.lit (.bool true))]),gs (t3) [sy [32,33]] (.tup [cS 34,cS 35]),gs (Qan z.im) [cS 35] (rS 36),gs (Qbm w b_w) [.row (Qab 8 8)] (.tup [sy [37,38],.c (.lit (.bool true))]),gs (t4) [sy [37,38]] (.tup [cS 39,cS 40]),gs (Qan w.im) [cS 40] (rS 41),gs (t5) [cS 40,cS 35] (rS 42),gs (t6) [cS 42] (.r (sy [43,44])),gs (t7) [sy [43,44],sy [32,33]] (.r (sy [45,46])),gs (t8) [sy [37,38],sy [45,46]] (.r (sy [47,48])),gs (t9) [lc 1,lc 0] (.r (sy [49,50])),gs (t10.f h0) [.row [.sym 43,.sym 44,.sym 47,.sym 48,.lit .nilp,.lit .nilp,.sym 49,.sym 50,.lit (.bool false)]] (.tup [.row (flA [zGA,zGA,zGA,zGA,[.lit (.bool false)]]),lc 4])]
     [bI .leq 3 (.sym 36) (li 0) z.im.num.sign 0 false (cbF hz),bI .leq 3 (.sym 41) (li 0) w.im.num.sign 0 false (cbF hw)] [] ((Qbu (Qdz (Qbv (Qbs (Qbr (Qdy (Qbt (fs99 .nil)))))))):FnsOk Tryz.prog _) 1 3 Tryz.func37 eo37 2000 [lc 1,.row (Qab 0 8),.row (Qab 8 8)] (.tup [.row (flA [zGA,zGA,zGA,zGA,[.lit (.bool false)]]),lc 4])))
theorem dMov1(z w:QC)(b_z:ZL z 1024)(b_w:ZL w 1024)(hz:¬(z.im.num.sign≤0))(hw:¬(w.im.num.sign≤0)):Qah Tryz.prog true 45 [.c (gl (.int .i64 1)),.row (rG z),.row (rG w)] (.r (.row (rG ((nm4 ((⟨w.im / z.im,(0:Rat)⟩:QC),(⟨w.re - ((w.im / z.im)*z.re),(0:Rat)⟩:QC),(⟨0,0⟩:QC),(⟨1,0⟩:QC))).1)++rG ((nm4 ((⟨w.im / z.im,(0:Rat)⟩:QC),(⟨w.re - ((w.im / z.im)*z.re),(0:Rat)⟩:QC),(⟨0,0⟩:QC),(⟨1,0⟩:QC))).2.1)++rG ((nm4 ((⟨w.im / z.im,(0:Rat)⟩:QC),(⟨w.re - ((w.im / z.im)*z.re),(0:Rat)⟩:QC),(⟨0,0⟩:QC),(⟨1,0⟩:QC))).2.2.1)++rG ((nm4 ((⟨w.im / z.im,(0:Rat)⟩:QC),(⟨w.re - ((w.im / z.im)*z.re),(0:Rat)⟩:QC),(⟨0,0⟩:QC),(⟨1,0⟩:QC))).2.2.2)++[gl (.bool false)]))) :=
  Qav (L := [cG z,cG w,cF (w.im / z.im),cF ((w.im / z.im) * z.re),cF (w.re - ((w.im / z.im) * z.re)),cF (0 : Rat),(Qae (⟨0,0⟩ : QC)).cells,(Qae (⟨1,0⟩ : QC)).cells,cG ((nm4 ((⟨w.im / z.im,(0 : Rat)⟩ : QC),(⟨w.re - ((w.im / z.im) * z.re),(0 : Rat)⟩ : QC),(⟨0,0⟩ : QC),(⟨1,0⟩ : QC))).1),cG ((nm4 ((⟨w.im / z.im,(0 : Rat)⟩ : QC),(⟨w.re - ((w.im / z.im) * z.re),(0 : Rat)⟩ : QC),(⟨0,0⟩ : QC),(⟨1,0⟩ : QC))).2.1),cG ((nm4 ((⟨w.im / z.im,(0 : Rat)⟩ : QC),(⟨w.re - ((w.im / z.im) * z.re),(0 : Rat)⟩ : QC),(⟨0,0⟩ : QC),(⟨1,0⟩ : QC))).2.2.1),cG ((nm4 ((⟨w.im / z.im,(0 : Rat)⟩ : QC),(⟨w.re - ((w.im / z.im) * z.re),(0 : Rat)⟩ : QC),(⟨0,0⟩ : QC),(⟨1,0⟩ : QC))).2.2.2)].flatten) tys_ok mixed
     [gs (Qcg w.im z.im (b_w.2.mn) (b_z.2.mn) (pne (Qbl hz))) [.row (qS 9),.row (qS 3)] (rQ 12),gs (Qai (w.im / z.im) z.re ((RL_dvd (pne (Qbl hz)) b_w.2 b_z.2).mn) (b_z.1.mn)) [.row (qS 12),.row (qS 0)] (rQ 15),gs (Qaw w.re ((w.im / z.im)*z.re) (b_w.1.mn) ((RL_mul (RL_dvd (pne (Qbl hz)) b_w.2 b_z.2) b_z.1).mn)) [.row (qS 6),.row (qS 15)] (rQ 18),gs (Qcl 0 (by decide) (by decide)) [lc 0] (rQ 21),gs (rInt 0 0 (by decide) (by decide) (by decide) (by decide)) [lc 0,lc 0] (.r (.row (Qab 24 8))),gs (rInt 1 0 (by decide) (by decide) (by decide) (by decide)) [lc 1,lc 0] (.r (.row (Qab 32 8))),gs (rNorm4 ((⟨w.im / z.im,(0:Rat)⟩:QC),(⟨w.re - ((w.im / z.im)*z.re),(0:Rat)⟩:QC),(⟨0,0⟩:QC),(⟨1,0⟩:QC)) false ⟨((ZL_mk ((RL_dvd (pne (Qbl hz)) b_w.2 b_z.2).upby 2) (ri 0)).mn),((ZL_mk ((RL_sub b_w.1 (RL_mul (RL_dvd (pne (Qbl hz)) b_w.2 b_z.2) b_z.1)).upby 1) (ri 0)).mn),(zk (⟨0,0⟩:QC)),(zk (⟨1,0⟩:QC))⟩ (dq_aff (qne (Qbl hw) (Qbl hz)))) [.row [.sym 12,.sym 13,.lit (.bool false),.sym 14,.sym 21,.sym 22,.lit (.bool false),.sym 23],.row (gR 18),.row (Qab 24 8),.row (Qab 32 8),.c (.lit (.bool false))] (.r (.row (flA [gL [40,46,52,58],[.lit (.bool false)]])))]
     [] [] Tryz.func45 eo45 2000 [lc 1,.row (gR 0),.row (gR 6)] (.r (.row (flA [gL [40,46,52,58],[.lit (.bool false)]])))
def mv1(z w:QC):Q4:=nm4 ((⟨w.im / z.im,0⟩:QC),(⟨w.re - ((w.im / z.im)*z.re),0⟩:QC),(⟨0,0⟩:QC),(⟨1,0⟩:QC))
def mv2(z w:QC):Q4:=nm4 (mul4 (inv4 (hm4 w)) (hm4 z))
theorem pMov2(z w:QC)(b_z:Qaf z)(b_w:Qaf w)(hz:¬((((1:Rat) - (nm z)).num.sign)≤0))(hw:¬((((1:Rat) - (nm w)).num.sign)≤0)):Qah Tryz.prog true 37 [.c (gl (.int .i64 2)),.row ((Qae z).cells),.row ((Qae w).cells)] (if Sh4 (nm4 (mv2 z w)) then .tup [.row ((Qae ((nm4 (mv2 z w)).1)).cells++(Qae ((nm4 (mv2 z w)).2.1)).cells++(Qae ((nm4 (mv2 z w)).2.2.1)).cells++(Qae ((nm4 (mv2 z w)).2.2.2)).cells++[gl (.bool false)]),.c (gl (.int .i64 0))] else .tup [.row (zGG++zGG++zGG++zGG++[gl (.bool false)]),.c (gl (.int .i64 4))]) :=
  have t1:=pGInt 0 1 (by decide) (by decide) (by decide) (by decide)
  have t2:=pGInt 0 0 (by decide) (by decide) (by decide) (by decide)
  have t3:=Qbb 1 1 (by decide) (by decide) (by decide) (by decide) (by decide)
  have t4:=Qbn z ((Qaa b_z).mn)
  have t5:=Qay (1:Rat) (nm z) (ri 1) ((Qal (Qaa b_z)).mn)
  have t6:=Qan ((1:Rat) - (nm z))
  have t7:=Qbn w ((Qaa b_w).mn)
  have t8:=Qay (1:Rat) (nm w) (ri 1) ((Qal (Qaa b_w)).mn)
  have t9:=Qan ((1:Rat) - (nm w))
  have t10:=pHome w ((Qaa b_w).mn)
  have t11:=eUndo (hm4 w) ⟨(zk (⟨1,0⟩:QC)),((Qat w (Qaa b_w)).mn),((Qar w (Qaa b_w)).mn),(zk (⟨1,0⟩:QC))⟩ (Qbj (Qbl hw))
  have t12:=pHome z ((Qaa b_z).mn)
  have t13:=eBeh false false ((inv4 (hm4 w)).1) ((inv4 (hm4 w)).2.1) ((inv4 (hm4 w)).2.2.1) ((inv4 (hm4 w)).2.2.2) (hm4 z) ⟨(((Qbq (p:=(hm4 w)) ⟨(zk (⟨1,0⟩:QC)),Qat w (Qaa b_w),Qar w (Qaa b_w),(zk (⟨1,0⟩:QC))⟩ (Qbj (Qbl hw))).1).mn),(((Qbq (p:=(hm4 w)) ⟨(zk (⟨1,0⟩:QC)),Qat w (Qaa b_w),Qar w (Qaa b_w),(zk (⟨1,0⟩:QC))⟩ (Qbj (Qbl hw))).2.1).mn),(((Qbq (p:=(hm4 w)) ⟨(zk (⟨1,0⟩:QC)),Qat w (Qaa b_w),Qar w (Qaa b_w),(zk (⟨1,0⟩:QC))⟩ (Qbj (Qbl hw))).2.2.1).mn),(((Qbq (p:=(hm4 w)) ⟨(zk (⟨1,0⟩:QC)),Qat w (Qaa b_w),Qar w (Qaa b_w),(zk (⟨1,0⟩:QC))⟩ (Qbj (Qbl hw))).2.2.2).mn)⟩ ⟨(zk (⟨1,0⟩:QC)),((Qat z (Qaa b_z)).mn),((Qar z (Qaa b_z)).mn),(zk (⟨1,0⟩:QC))⟩ (mul_dq (inv_dq (Qbj (Qbl hw))) (Qbj (Qbl hz)))
  have t14:=eTold false (mv2 z w) ⟨(((nm4_zl (p:=mul4 (inv4 (hm4 w)) (hm4 z)) (stp_zl (t:=false) (p:=(hm4 z)) ⟨(Qbq (p:=(hm4 w)) ⟨(zk (⟨1,0⟩:QC)),Qat w (Qaa b_w),Qar w (Qaa b_w),(zk (⟨1,0⟩:QC))⟩ (Qbj (Qbl hw))).1,(Qbq (p:=(hm4 w)) ⟨(zk (⟨1,0⟩:QC)),Qat w (Qaa b_w),Qar w (Qaa b_w),(zk (⟨1,0⟩:QC))⟩ (Qbj (Qbl hw))).2.1,(Qbq (p:=(hm4 w)) ⟨(zk (⟨1,0⟩:QC)),Qat w (Qaa b_w),Qar w (Qaa b_w),(zk (⟨1,0⟩:QC))⟩ (Qbj (Qbl hw))).2.2.1,(Qbq (p:=(hm4 w)) ⟨(zk (⟨1,0⟩:QC)),Qat w (Qaa b_w),Qar w (Qaa b_w),(zk (⟨1,0⟩:QC))⟩ (Qbj (Qbl hw))).2.2.2⟩ ⟨(zk (⟨1,0⟩:QC)),Qat z (Qaa b_z),Qar z (Qaa b_z),(zk (⟨1,0⟩:QC))⟩) (mul_dq (inv_dq (Qbj (Qbl hw))) (Qbj (Qbl hz)))).1).mn),(((nm4_zl (p:=mul4 (inv4 (hm4 w)) (hm4 z)) (stp_zl (t:=false) (p:=(hm4 z)) ⟨(Qbq (p:=(hm4 w)) ⟨(zk (⟨1,0⟩:QC)),Qat w (Qaa b_w),Qar w (Qaa b_w),(zk (⟨1,0⟩:QC))⟩ (Qbj (Qbl hw))).1,(Qbq (p:=(hm4 w)) ⟨(zk (⟨1,0⟩:QC)),Qat w (Qaa b_w),Qar w (Qaa b_w),(zk (⟨1,0⟩:QC))⟩ (Qbj (Qbl hw))).2.1,(Qbq (p:=(hm4 w)) ⟨(zk (⟨1,0⟩:QC)),Qat w (Qaa b_w),Qar w (Qaa b_w),(zk (⟨1,0⟩:QC))⟩ (Qbj (Qbl hw))).2.2.1,(Qbq (p:=(hm4 w)) ⟨(zk (⟨1,0⟩:QC)),Qat w (Qaa b_w),Qar w (Qaa b_w),(zk (⟨1,0⟩:QC))⟩ (Qbj (Qbl hw))).2.2.2⟩ ⟨(zk (⟨1,0⟩:QC)),Qat z (Qaa b_z),Qar z (Qaa b_z),(zk (⟨1,0⟩:QC))⟩) (mul_dq (inv_dq (Qbj (Qbl hw))) (Qbj (Qbl hz)))).2.1).mn),(((nm4_zl (p:=mul4 (inv4 (hm4 w)) (hm4 z)) (stp_zl (t:=false) (p:=(hm4 z)) ⟨(Qbq (p:=(hm4 w)) ⟨(zk (⟨1,0⟩:QC)),Qat w (Qaa b_w),Qar w (Qaa b_w),(zk (⟨1,0⟩:QC))⟩ (Qbj (Qbl hw))).1,(Qbq (p:=(hm4 w)) ⟨(zk (⟨1,0⟩:QC)),Qat w (Qaa b_w),Qar w (Qaa b_w),(zk (⟨1,0⟩:QC))⟩ (Qbj (Qbl hw))).2.1,(Qbq (p:=(hm4 w)) ⟨(zk (⟨1,0⟩:QC)),Qat w (Qaa b_w),Qar w (Qaa b_w),(zk (⟨1,0⟩:QC))⟩ (Qbj (Qbl hw))).2.2.1,(Qbq (p:=(hm4 w)) ⟨(zk (⟨1,0⟩:QC)),Qat w (Qaa b_w),Qar w (Qaa b_w),(zk (⟨1,0⟩:QC))⟩ (Qbj (Qbl hw))).2.2.2⟩ ⟨(zk (⟨1,0⟩:QC)),Qat z (Qaa b_z),Qar z (Qaa b_z),(zk (⟨1,0⟩:QC))⟩) (mul_dq (inv_dq (Qbj (Qbl hw))) (Qbj (Qbl hz)))).2.2.1).mn),(((nm4_zl (p:=mul4 (inv4 (hm4 w)) (hm4 z)) (stp_zl (t:=false) (p:=(hm4 z)) ⟨(Qbq (p:=(hm4 w)) ⟨(zk (⟨1,0⟩:QC)),Qat w (Qaa b_w),Qar w (Qaa b_w),(zk (⟨1,0⟩:QC))⟩ (Qbj (Qbl hw))).1,(Qbq (p:=(hm4 w)) ⟨(zk (⟨1,0⟩:QC)),Qat w (Qaa b_w),Qar w (Qaa b_w),(zk (⟨1,0⟩:QC))⟩ (Qbj (Qbl hw))).2.1,(Qbq (p:=(hm4 w)) ⟨(zk (⟨1,0⟩:QC)),Qat w (Qaa b_w),Qar w (Qaa b_w),(zk (⟨1,0⟩:QC))⟩ (Qbj (Qbl hw))).2.2.1,(Qbq (p:=(hm4 w)) ⟨(zk (⟨1,0⟩:QC)),Qat w (Qaa b_w),Qar w (Qaa b_w),(zk (⟨1,0⟩:QC))⟩ (Qbj (Qbl hw))).2.2.2⟩ ⟨(zk (⟨1,0⟩:QC)),Qat z (Qaa b_z),Qar z (Qaa b_z),(zk (⟨1,0⟩:QC))⟩) (mul_dq (inv_dq (Qbj (Qbl hw))) (Qbj (Qbl hz)))).2.2.2).mn)⟩ (nm4_dq (mul_dq (inv_dq (Qbj (Qbl hw))) (Qbj (Qbl hz))))
  (Classical.em (Sh4 (nm4 (mv2 z w)))).elim (fun h0 => .it h0 (Qas (L := [(Qae z).cells,(Qae w).cells,(Qae (⟨0,1⟩ : QC)).cells,(Qae (⟨0,0⟩ : QC)).cells,cn z,[gr (1 : Rat)],[gr (nm z)],[gr ((1 : Rat) - (nm z))],[gx (.int .i64 (((1 : Rat) - (nm z)).num.sign))],cn w,[gr (nm w)],[gr ((1 : Rat) - (nm w))],[gx (.int .i64 (((1 : Rat) - (nm w)).num.sign))],cn (⟨1,0⟩ : QC),cn ((⟨0,0⟩ : QC) - w),cn ((⟨0,0⟩ : QC) - (cj w)),cn (⟨1,0⟩ : QC),cn ((inv4 (hm4 w)).1),cn ((inv4 (hm4 w)).2.1),cn ((inv4 (hm4 w)).2.2.1),cn ((inv4 (hm4 w)).2.2.2),cn (⟨1,0⟩ : QC),cn ((⟨0,0⟩ : QC) - z),cn ((⟨0,0⟩ : QC) - (cj z)),cn (⟨1,0⟩ : QC),cn ((mv2 z w).1),cn ((mv2 z w).2.1),cn ((mv2 z w).2.2.1),cn ((mv2 z w).2.2.2),(Qae ((nm4 (mv2 z w)).1)).cells,(Qae ((nm4 (mv2 z w)).2.1)).cells,(Qae ((nm4 (mv2 z w)).2.2.1)).cells,(Qae ((nm4 (mv2 z w)).2.2.2)).cells].flatten) tys_ok mixed
     [gs (t1) [lc 0,lc 1] (.r (.row (Qab 16 8))),gs (t2) [lc 0,lc 0] (.r (.row (Qab 24 8))),gs (Qbm z b_z) [.row (Qab 0 8)] (.tup [sy [32,33],.c (.lit (.bool true))]),gs (t3) [lc 1,lc 1] (rS 34),gs (t4) [sy [32,33]] (rS 35),gs (t5) [cS 34,cS 35] (rS 36),gs (t6) [cS 36] (rS 37),gs (Qbm w b_w) [.row (Qab 8 8)] (.tup [sy [38,39],.c (.lit (.bool true))]),gs (t7) [sy [38,39]] (rS 40),gs (t8) [cS 34,cS 40] (rS 41),gs (t9) [cS 41] (rS 42),gs (t10) [sy [38,39]] (.r (.row (flA [Qab 43 8,[.lit (.bool false)]]))),gs (t11) [.row (flA [Qab 43 8,[.lit (.bool false)]])] (.r (.row (flA [Qab 51 8,[.lit (.bool false)]]))),gs (t12) [sy [32,33]] (.r (.row (flA [Qab 59 8,[.lit (.bool false)]]))),gs (t13) [.row (flA [Qab 51 8,[.lit (.bool false)]]),.row (flA [Qab 59 8,[.lit (.bool false)]])] (.r (.row (flA [Qab 67 8,[.lit (.bool false)]]))),gs (t14.t h0) [.row (flA [Qab 67 8,[.lit (.bool false)]])] (.tup [.row (flA [Qab 75 32,[.lit (.bool false)]]),lc 0])]
     [bI .leq 3 (.sym 37) (li 0) (((1:Rat) - (nm z)).num.sign) 0 false (cbF hz),bI .leq 3 (.sym 42) (li 0) (((1:Rat) - (nm w)).num.sign) 0 false (cbF hw)] [] ((Qbu (Qdz (Qbv (Qbs (Qbr (Qdy (Qbt (fs99 .nil)))))))):FnsOk Tryz.prog _) 1 3 Tryz.func37 eo37 2000 [lc 2,.row (Qab 0 8),.row (Qab 8 8)] (.tup [.row (flA [Qab 75 32,[.lit (.bool false)]]),lc 0])))
   (fun h0=>.ie (fun h=>h0 h) (Qas (L:=[(Qae z).cells,(Qae w).cells,(Qae (⟨0,1⟩:QC)).cells,(Qae (⟨0,0⟩:QC)).cells,cn z,[gr (1:Rat)],[gr (nm z)],[gr ((1:Rat) - (nm z))],[gx (.int .i64 (((1:Rat) - (nm z)).num.sign))],cn w,[gr (nm w)],[gr ((1:Rat) - (nm w))],[gx (.int .i64 (((1:Rat) - (nm w)).num.sign))],cn (⟨1,0⟩:QC),cn ((⟨0,0⟩:QC) - w),cn ((⟨0,0⟩:QC) - (cj w)),cn (⟨1,0⟩:QC),cn ((inv4 (hm4 w)).1),cn ((inv4 (hm4 w)).2.1),cn ((inv4 (hm4 w)).2.2.1),cn ((inv4 (hm4 w)).2.2.2),cn (⟨1,0⟩:QC),cn ((⟨0,0⟩:QC) - z),cn ((⟨0,0⟩:QC) - (cj z)),cn (⟨1,0⟩:QC),cn ((mv2 z w).1),cn ((mv2 z w).2.1),cn ((mv2 z w).2.2.1),cn ((mv2 z w).2.2.2)].flatten) tys_ok mixed
     [gs (t1) [lc 0,lc 1] (.r (.row (Qab 16 8))),gs (t2) [lc 0,lc 0] (.r (.row (Qab 24 8))),gs (Qbm z b_z) [.row (Qab 0 8)] (.tup [sy [32,33],.c (.lit (.bool true))]),gs (t3) [lc 1,lc 1] (rS 34),gs (t4) [sy [32,33]] (rS 35),gs (t5) [cS 34,cS 35] (rS 36),gs (t6) [cS 36] (rS 37),gs (Qbm w b_w) [.row (Qab 8 8)] (.tup [sy [38,39],.c (.lit (.bool true))]),gs (t7) [sy [38,39]] (rS 40),gs (t8) [cS 34,cS 40] (rS 41),gs (t9) [cS 41] (rS 42),gs (t10) [sy [38,39]] (.r (.row (flA [Qab 43 8,[.lit (.bool false)]]))),gs (t11) [.row (flA [Qab 43 8,[.lit (.bool false)]])] (.r (.row (flA [Qab 51 8,[.lit (.bool false)]]))),gs (t12) [sy [32,33]] (.r (.row (flA [Qab 59 8,[.lit (.bool false)]]))),gs (t13) [.row (flA [Qab 51 8,[.lit (.bool false)]]),.row (flA [Qab 59 8,[.lit (.bool false)]])] (.r (.row (flA [Qab 67 8,[.lit (.bool false)]]))),gs (t14.f h0) [.row (flA [Qab 67 8,[.lit (.bool false)]])] (.tup [.row (flA [zGA,zGA,zGA,zGA,[.lit (.bool false)]]),lc 4])]
     [bI .leq 3 (.sym 37) (li 0) (((1:Rat) - (nm z)).num.sign) 0 false (cbF hz),bI .leq 3 (.sym 42) (li 0) (((1:Rat) - (nm w)).num.sign) 0 false (cbF hw)] [] ((Qbu (Qdz (Qbv (Qbs (Qbr (Qdy (Qbt (fs99 .nil)))))))):FnsOk Tryz.prog _) 1 3 Tryz.func37 eo37 2000 [lc 2,.row (Qab 0 8),.row (Qab 8 8)] (.tup [.row (flA [zGA,zGA,zGA,zGA,[.lit (.bool false)]]),lc 4])))
theorem hmn(z:QC):hm4 z=((⟨1,0⟩:QC),ng z,ng (cj z),(⟨1,0⟩:QC)):=by unfold hm4; rw[←ng_eq,←ng_eq]
theorem adjn(p:Q4):adj4 p=(p.2.2.2,ng p.2.1,ng p.2.2.1,p.1):=by unfold adj4; rw[←ng_eq,←ng_eq]
theorem dHom0(z:QC)(b_z:ZL z 100000)(hz:¬((((1:Rat) - (nm z)).num.sign)≤0)):Qah Tryz.prog true 142 [.row (rG z)] (.r (.row (rG ((nm4 ((⟨1,0⟩:QC),ng z,ng (cj z),(⟨1,0⟩:QC))).1)++rG ((nm4 ((⟨1,0⟩:QC),ng z,ng (cj z),(⟨1,0⟩:QC))).2.1)++rG ((nm4 ((⟨1,0⟩:QC),ng z,ng (cj z),(⟨1,0⟩:QC))).2.2.1)++rG ((nm4 ((⟨1,0⟩:QC),ng z,ng (cj z),(⟨1,0⟩:QC))).2.2.2)++[gl (.bool false)]))) :=
  Qav (L := [cG z,(Qae (⟨1,0⟩ : QC)).cells,cG (ng z),cG (cj z),cG (ng (cj z)),cG ((nm4 ((⟨1,0⟩ : QC),ng z,ng (cj z),(⟨1,0⟩ : QC))).1),cG ((nm4 ((⟨1,0⟩ : QC),ng z,ng (cj z),(⟨1,0⟩ : QC))).2.1),cG ((nm4 ((⟨1,0⟩ : QC),ng z,ng (cj z),(⟨1,0⟩ : QC))).2.2.1),cG ((nm4 ((⟨1,0⟩ : QC),ng z,ng (cj z),(⟨1,0⟩ : QC))).2.2.2)].flatten) tys_ok mixed
     [gs (rInt 1 0 (by decide) (by decide) (by decide) (by decide)) [lc 1,lc 0] (.r (.row (Qab 6 8))),gs (rGNeg z) [.row (gR 0)] (.r (.row (gR 14))),gs (rConj z) [.row (gR 0)] (.r (.row (gR 20))),gs (rGNeg (cj z)) [.row (gR 20)] (.r (.row (gR 26))),gs (rNorm4 ((⟨1,0⟩:QC),ng z,ng (cj z),(⟨1,0⟩:QC)) false ⟨(zk (⟨1,0⟩:QC)),((ZL_ng b_z).mn),((ZL_ng (Qap b_z)).mn),(zk (⟨1,0⟩:QC))⟩ (by rw[←hmn z]; exact Qbj (Qbl hz))) [.row (Qab 6 8),.row (gR 14),.row (gR 26),.row (Qab 6 8),.c (.lit (.bool false))] (.r (.row (flA [gL [32,38,44,50],[.lit (.bool false)]])))]
     [] [] Tryz.func142 eo142 2000 [.row (gR 0)] (.r (.row (flA [gL [32,38,44,50],[.lit (.bool false)]])))
theorem dInv0(a b c d:QC)(b_a:ZL a 100000)(b_b:ZL b 100000)(b_c:ZL c 100000)(b_d:ZL d 100000)(hd:dq (d,ng b,ng c,a)≠⟨0,0⟩):Qah Tryz.prog true 86 [.row (rG a++rG b++rG c++rG d++[gl (.bool false)])] (.r (.row (rG ((nm4 (d,ng b,ng c,a)).1)++rG ((nm4 (d,ng b,ng c,a)).2.1)++rG ((nm4 (d,ng b,ng c,a)).2.2.1)++rG ((nm4 (d,ng b,ng c,a)).2.2.2)++[gl (.bool false)]))) :=
  Qas (L := [cG a,cG b,cG c,cG d,cG (ng b),cG (ng c),cG ((nm4 (d,ng b,ng c,a)).1),cG ((nm4 (d,ng b,ng c,a)).2.1),cG ((nm4 (d,ng b,ng c,a)).2.2.1),cG ((nm4 (d,ng b,ng c,a)).2.2.2)].flatten) tys_ok mixed
     [gs (rGNeg b) [.row (gR 6)] (.r (.row (gR 24))),gs (rGNeg c) [.row (gR 12)] (.r (.row (gR 30))),gs (rNorm4 (d,ng b,ng c,a) false ⟨b_d.mn,((ZL_ng b_b).mn),((ZL_ng b_c).mn),b_a.mn⟩ hd) [.row (gR 18),.row (gR 24),.row (gR 30),.row (gR 0),.c (.lit (.bool false))] (.r (.row (flA [gL [36,42,48,54],[.lit (.bool false)]])))]
     [] [] ((fs181 .nil):Tr.FnsOk Tryz.prog _) 1 1 Tryz.func86 eo86 2000 [.row (flA [gL [0,6,12,18],[.lit (.bool false)]])] (.r (.row (flA [gL [36,42,48,54],[.lit (.bool false)]])))
theorem dCmp0(a b c d a2 b2 c2 d2:QC)(b_a:ZL a 100000)(b_b:ZL b 100000)(b_c:ZL c 100000)(b_d:ZL d 100000)(b_a2:ZL a2 100000)(b_b2:ZL b2 100000)(b_c2:ZL c2 100000)(b_d2:ZL d2 100000)(hd:dq (mul4 (a,b,c,d) (a2,b2,c2,d2))≠⟨0,0⟩):Qah Tryz.prog true 141 [.row (rG a++rG b++rG c++rG d++[gl (.bool false)]),.row (rG a2++rG b2++rG c2++rG d2++[gl (.bool false)])] (.r (.row (rG ((nm4 ((a*a2)+(b*c2),(a*b2)+(b*d2),(c*a2)+(d*c2),(c*b2)+(d*d2))).1)++rG ((nm4 ((a*a2)+(b*c2),(a*b2)+(b*d2),(c*a2)+(d*c2),(c*b2)+(d*d2))).2.1)++rG ((nm4 ((a*a2)+(b*c2),(a*b2)+(b*d2),(c*a2)+(d*c2),(c*b2)+(d*d2))).2.2.1)++rG ((nm4 ((a*a2)+(b*c2),(a*b2)+(b*d2),(c*a2)+(d*c2),(c*b2)+(d*d2))).2.2.2)++[gl (.bool false)]))) :=
  Qas (L := [cG a,cG b,cG c,cG d,cG a2,cG b2,cG c2,cG d2,cG (a * a2),cG (b * c2),cG ((a * a2) + (b * c2)),cG (a * b2),cG (b * d2),cG ((a * b2) + (b * d2)),cG (c * a2),cG (d * c2),cG ((c * a2) + (d * c2)),cG (c * b2),cG (d * d2),cG ((c * b2) + (d * d2)),cG ((nm4 ((a * a2) + (b * c2),(a * b2) + (b * d2),(c * a2) + (d * c2),(c * b2) + (d * d2))).1),cG ((nm4 ((a * a2) + (b * c2),(a * b2) + (b * d2),(c * a2) + (d * c2),(c * b2) + (d * d2))).2.1),cG ((nm4 ((a * a2) + (b * c2),(a * b2) + (b * d2),(c * a2) + (d * c2),(c * b2) + (d * d2))).2.2.1),cG ((nm4 ((a * a2) + (b * c2),(a * b2) + (b * d2),(c * a2) + (d * c2),(c * b2) + (d * d2))).2.2.2)].flatten) tys_ok mixed
     [gs (rTimes a a2 b_a.mn b_a2.mn) [.row (gR 0),.row (gR 24)] (.r (.row (gR 48))),gs (rTimes b c2 b_b.mn b_c2.mn) [.row (gR 6),.row (gR 36)] (.r (.row (gR 54))),gs (rPlus (a*a2) (b*c2) ((Qag b_a b_a2).mn) ((Qag b_b b_c2).mn)) [.row (gR 48),.row (gR 54)] (.r (.row (gR 60))),gs (rTimes a b2 b_a.mn b_b2.mn) [.row (gR 0),.row (gR 30)] (.r (.row (gR 66))),gs (rTimes b d2 b_b.mn b_d2.mn) [.row (gR 6),.row (gR 42)] (.r (.row (gR 72))),gs (rPlus (a*b2) (b*d2) ((Qag b_a b_b2).mn) ((Qag b_b b_d2).mn)) [.row (gR 66),.row (gR 72)] (.r (.row (gR 78))),gs (rTimes c a2 b_c.mn b_a2.mn) [.row (gR 12),.row (gR 24)] (.r (.row (gR 84))),gs (rTimes d c2 b_d.mn b_c2.mn) [.row (gR 18),.row (gR 36)] (.r (.row (gR 90))),gs (rPlus (c*a2) (d*c2) ((Qag b_c b_a2).mn) ((Qag b_d b_c2).mn)) [.row (gR 84),.row (gR 90)] (.r (.row (gR 96))),gs (rTimes c b2 b_c.mn b_b2.mn) [.row (gR 12),.row (gR 30)] (.r (.row (gR 102))),gs (rTimes d d2 b_d.mn b_d2.mn) [.row (gR 18),.row (gR 42)] (.r (.row (gR 108))),gs (rPlus (c*b2) (d*d2) ((Qag b_c b_b2).mn) ((Qag b_d b_d2).mn)) [.row (gR 102),.row (gR 108)] (.r (.row (gR 114))),gs (rNorm4 ((a*a2)+(b*c2),(a*b2)+(b*d2),(c*a2)+(d*c2),(c*b2)+(d*d2)) false ⟨((Qbc (Qag b_a b_a2) (Qag b_b b_c2)).mn),((Qbc (Qag b_a b_b2) (Qag b_b b_d2)).mn),((Qbc (Qag b_c b_a2) (Qag b_d b_c2)).mn),((Qbc (Qag b_c b_b2) (Qag b_d b_d2)).mn)⟩ hd) [.row (gR 60),.row (gR 78),.row (gR 96),.row (gR 114),.c (.lit (.bool false))] (.r (.row (flA [gL [120,126,132,138],[.lit (.bool false)]])))]
     [gbNeb 4 Tryz.underlying4 false false] [] ((fs181 .nil):Tr.FnsOk Tryz.prog _) 1 1 Tryz.func141 eo141 2000 [.row (flA [gL [0,6,12,18],[.lit (.bool false)]]),.row (flA [gL [24,30,36,42],[.lit (.bool false)]])] (.r (.row (flA [gL [120,126,132,138],[.lit (.bool false)]])))
theorem dHom(z:QC)(b_z:ZL z 100000)(hz:0<1 - nm z):Qah Tryz.prog true 142 [G1 z] (.r (.row (mGt (nm4 (hm4 z)) false))):=by
 rw[hmn]; exact dHom0 z b_z (fun h=>snegp h hz)
theorem dInv(p:Q4)(h:ZL4 p 100000)(hd:dq p≠⟨0,0⟩):Qah Tryz.prog true 86 [.row (mGt p false)] (.r (.row (mGt (inv4 p) false))):=by
 have hd':=adj_ne hd
 unfold inv4
 rw[adjn] at hd' ⊢
 exact dInv0 p.1 p.2.1 p.2.2.1 p.2.2.2 h.1 h.2.1 h.2.2.1 h.2.2.2 hd'
theorem dCmp(p q:Q4)(h:ZL4 p 100000)(k:ZL4 q 100000)(hd:dq (mul4 p q)≠⟨0,0⟩):Qah Tryz.prog true 141 [.row (mGt p false),.row (mGt q false)] (.r (.row (mGt (nm4 (mul4 p q)) false))) :=
 dCmp0 p.1 p.2.1 p.2.2.1 p.2.2.2 q.1 q.2.1 q.2.2.1 q.2.2.2 h.1 h.2.1 h.2.2.1 h.2.2.2 k.1 k.2.1 k.2.2.1 k.2.2.2 hd
theorem hm_zl{z:QC}(h:ZL z 1024):ZL4 (hm4 z) 1024:=⟨(ZL_int 1 0 (by decide) (by decide) (by decide) (by decide)).mono (by decide),ZL_n0 h,ZL_n0 (Qap h),(ZL_int 1 0 (by decide) (by decide) (by decide) (by decide)).mono (by decide)⟩
theorem mv2_doc{z w:QC}(hz:0<1 - nm z)(hw:0<1 - nm w):nm4 (mul4 (inv4 (nm4 (hm4 w))) (nm4 (hm4 z)))=mv2 z w:=by
 have e1:inv4 (nm4 (hm4 w))=inv4 (hm4 w):=by
  have k:adj4 (hm4 w)=smul (by4 (hm4 w)) (adj4 (nm4 (hm4 w))):=by
   have:=nm4_smul (Qbj hw)
   conv=>lhs; rw[this]
   unfold adj4 smul
   refine q4_ext rfl ?_ ?_ rfl<;>(apply Qce<;>simp only[qsr,qsi,qmr,qmi]<;>grind)
  unfold inv4
  rw[k,nm4_sm (by4_ne (Qbj hw)) (adj_ne (nm4_dq (Qbj hw)))]
 rw[e1]
 unfold mv2
 have k:mul4 (inv4 (hm4 w)) (hm4 z)=smul (by4 (hm4 z)) (mul4 (inv4 (hm4 w)) (nm4 (hm4 z))):=by rw[←mul4_sr,←nm4_smul (Qbj hz)]
 rw[k,nm4_sm (by4_ne (Qbj hz)) (mul_dq (inv_dq (Qbj hw)) (nm4_dq (Qbj hz)))]
theorem mv2_nf{z w:QC}(hz:0<1 - nm z)(hw:0<1 - nm w):Nf (mv2 z w):=nm4_nf (mul_dq (inv_dq (Qbj hw)) (Qbj hz))
theorem mv1_eq{z w:QC}(hz:0<z.im):nm4 ((⟨(w.im / z.im),0⟩:QC),wq85 z w,(⟨0,0⟩:QC),(⟨1,0⟩:QC))=mv1 z w:=by
 unfold mv1
 have h0:=pne hz
 have e:wq85 z w=(⟨w.re - ((w.im / z.im)*z.re),0⟩:QC):=by
  apply Qce<;>simp only[wq85,qsr,qsi,qmr,qmi]<;>grind
 rw[e]
theorem pMov1'(z w:QC)(b_z:Qaf z)(b_w:Qaf w)(hz:0<z.im)(hw:0<w.im):Qah Tryz.prog true 37 [.c (gl (.int .i64 1)),.row (Qae z).cells,.row (Qae w).cells] (if Sh4 (mv1 z w) then .tup [.row (mQ (mv1 z w) false),.c (gl (.int .i64 0))] else .tup [.row (zGG++zGG++zGG++zGG++[gl (.bool false)]),.c (gl (.int .i64 4))]):=by
 have k:=pMov1 z w b_z b_w (fun h=>snegp h hz) (fun h=>snegp h hw)
 rw[mv1_eq hz] at k
 exact k
theorem pMov2'(z w:QC)(b_z:Qaf z)(b_w:Qaf w)(hz:0<1 - nm z)(hw:0<1 - nm w):Qah Tryz.prog true 37 [.c (gl (.int .i64 2)),.row (Qae z).cells,.row (Qae w).cells] (if Sh4 (mv2 z w) then .tup [.row (mQ (mv2 z w) false),.c (gl (.int .i64 0))] else .tup [.row (zGG++zGG++zGG++zGG++[gl (.bool false)]),.c (gl (.int .i64 4))]):=by
 have k:=pMov2 z w b_z b_w (fun h=>snegp h hz) (fun h=>snegp h hw)
 rw[nm4_id (mv2_nf hz hw)] at k
 exact k
theorem dMov1'(z w:QC)(b_z:ZL z 1024)(b_w:ZL w 1024)(hz:0<z.im)(hw:0<w.im):Qah Tryz.prog true 45 [.c (gl (.int .i64 1)),G1 z,G1 w] (.r (.row (mGt (mv1 z w) false))):=dMov1 z w b_z b_w (fun h=>snegp h hz) (fun h=>snegp h hw)
theorem dMov2'(z w:QC)(b_z:ZL z 1024)(b_w:ZL w 1024)(hz:0<1 - nm z)(hw:0<1 - nm w):Qah Tryz.prog true 45 [.c (gl (.int .i64 2)),G1 z,G1 w] (.r (.row (mGt (mv2 z w) false))):=by
  rw[←mv2_doc hz hw]
  exact Qav (L:=[rG z,rG w,mGt (nm4 (hm4 w)) false,mGt (inv4 (nm4 (hm4 w))) false,mGt (nm4 (hm4 z)) false,mGt (nm4 (mul4 (inv4 (nm4 (hm4 w))) (nm4 (hm4 z)))) false].flatten) tys_ok mixed
    [gs (dHom w (b_w.mono (by decide)) hw) [.row (Qab 8 8)] (.r (.row (Qab 16 33))),gs (dInv (nm4 (hm4 w)) ((nm4_zl (hm_zl b_w) (Qbj hw)).mono (by decide)) (nm4_dq (Qbj hw))) [.row (Qab 16 33)] (.r (.row (Qab 49 33))),gs (dHom z (b_z.mono (by decide)) hz) [.row (Qab 0 8)] (.r (.row (Qab 82 33))),gs (dCmp (inv4 (nm4 (hm4 w))) (nm4 (hm4 z)) ((Qbq (nm4_zl (hm_zl b_w) (Qbj hw)) (nm4_dq (Qbj hw))).mono (by decide)) ((nm4_zl (hm_zl b_z) (Qbj hz)).mono (by decide)) (mul_dq (inv_dq (nm4_dq (Qbj hw))) (nm4_dq (Qbj hz)))) [.row (Qab 49 33),.row (Qab 82 33)] (.r (.row (Qab 115 33)))]
    [] [] Tryz.func45 eo45 2000 [lc 2,.row (Qab 0 8),.row (Qab 8 8)] (.r (.row (Qab 115 33)))
end Go.Proofs.YtmimficdpfmfgaaGreat
