/- Laws for the walk. -/
import Derived.Test.YtmimficdpfmfgaaGreatVbh
set_option linter.unusedVariables false
set_option linter.unusedSimpArgs false
set_option maxHeartbeats 4000000
set_option maxRecDepth 100000
namespace Go.Proofs.YtmimficdpfmfgaaGreat
open Go.RowKit Tr
open Classical
theorem pHome(z:QC)(b_z:ZL z 1000000) :SCt 122 [.row (cn z)] (.r (.row (cn (⟨1,0⟩:QC)++cn ((⟨0,0⟩:QC) - z)++cn ((⟨0,0⟩:QC) - (cj z))++cn (⟨1,0⟩:QC)++[gl (.bool false)]))) :=
  Qbr (L := [cn z,cn (⟨1,0⟩ : QC),cn ((⟨0,0⟩ : QC) - z),cn (cj z),cn ((⟨0,0⟩ : QC) - (cj z))].flatten) Qae Qai
     [gs (Qiw 1 0 (by decide) (by decide) (by decide) (by decide)) [lc 1,lc 0] (.r (sy [2,3])),gs (pNNeg z b_z.mn) [sy [0,1]] (.r (sy [4,5])),gs (Qcp z b_z.mn) [sy [0,1]] (.r (sy [6,7])),gs (pNNeg (cj z) ((Qao b_z).mn)) [sy [6,7]] (.r (sy [8,9]))]
     [] [] Tryz.func122 eo122 2000 [sy [0,1]] (.r (.row (flA [Qaj 2 4,[.sym 8,.sym 9,.sym 2,.sym 3,.lit (.bool false)]])))
theorem Qbg(z:QC){k:Nat}(b_z:ZL z k):ZL ((⟨0,0⟩:QC) - z) k:=(ZL_n0 b_z).mn
theorem Qbh(z:QC){k:Nat}(b_z:ZL z k):ZL ((⟨0,0⟩:QC) - (cj z)) k:=(ZL_n0 (Qao b_z)).mn
def wq83(b c:QC):QC:=((⟨0,0⟩:QC) - b) / ((⟨0,0⟩:QC) - c)
def wq84(c:QC):QC:=((⟨0,0⟩:QC) - c) / ((⟨0,0⟩:QC) - c)
theorem eUndoC(a b c d:QC)(b_a:ZL a 200000000)(b_b:ZL b 200000000)(b_c:ZL c 200000000)(b_d:ZL d 200000000)(hc:¬(((⟨0,0⟩:QC) - c)=(⟨0,0⟩:QC))):SCt 123 [.row (cn a++cn b++cn c++cn d++[gl (.bool false)])] (.r (.row (cn (d / ((⟨0,0⟩:QC) - c))++cn (wq83 b c)++cn (wq84 c)++cn (a / ((⟨0,0⟩:QC) - c))++[gl (.bool false)]))) :=
  Qbr (L := [cn a,cn b,cn c,cn d,cn ((⟨0,0⟩ : QC) - b),cn ((⟨0,0⟩ : QC) - c),cn (d / ((⟨0,0⟩ : QC) - c)),cn (wq83 b c),cn (wq84 c),cn (a / ((⟨0,0⟩ : QC) - c))].flatten) Qae Qai
     [gs (pNNeg b b_b.mn) [sy [2,3]] (.r (sy [8,9])),gs (pNNeg c b_c.mn) [sy [4,5]] (.r (sy [10,11])),gs (eNormCf d ((⟨0,0⟩:QC) - b) ((⟨0,0⟩:QC) - c) a b_d.mn ((ZL_n0 b_b).mn) ((ZL_n0 b_c).mn) b_a.mn hc) [.row (flA [Qaj 6 6,[.sym 0,.sym 1,.lit (.bool false)]])] (.r (.row (flA [Qaj 12 8,[.lit (.bool false)]])))]
     [] [] Tryz.func123 eo123 2000 [.row (flA [Qaj 0 8,[.lit (.bool false)]])] (.r (.row (flA [Qaj 12 8,[.lit (.bool false)]])))
theorem eUndo0(a b c d:QC)(b_a:ZL a 200000000)(b_b:ZL b 200000000)(b_c:ZL c 200000000)(b_d:ZL d 200000000)(hc:((⟨0,0⟩:QC) - c)=(⟨0,0⟩:QC))(ha:¬(a=(⟨0,0⟩:QC))):SCt 123 [.row (cn a++cn b++cn c++cn d++[gl (.bool false)])] (.r (.row (cn (d / a)++cn (((⟨0,0⟩:QC) - b) / a)++cn (((⟨0,0⟩:QC) - c) / a)++cn (a / a)++[gl (.bool false)]))) :=
  Qbr (L := [cn a,cn b,cn c,cn d,cn ((⟨0,0⟩ : QC) - b),cn ((⟨0,0⟩ : QC) - c),cn (d / a),cn (((⟨0,0⟩ : QC) - b) / a),cn (((⟨0,0⟩ : QC) - c) / a),cn (a / a)].flatten) Qae Qai
     [gs (pNNeg b b_b.mn) [sy [2,3]] (.r (sy [8,9])),gs (pNNeg c b_c.mn) [sy [4,5]] (.r (sy [10,11])),gs (eNorm0f d ((⟨0,0⟩:QC) - b) ((⟨0,0⟩:QC) - c) a b_d.mn ((ZL_n0 b_b).mn) ((ZL_n0 b_c).mn) b_a.mn hc ha) [.row (flA [Qaj 6 6,[.sym 0,.sym 1,.lit (.bool false)]])] (.r (.row (flA [Qaj 12 8,[.lit (.bool false)]])))]
     [] [] Tryz.func123 eo123 2000 [.row (flA [Qaj 0 8,[.lit (.bool false)]])] (.r (.row (flA [Qaj 12 8,[.lit (.bool false)]])))
theorem eUndo(p:Q4)(hp:ZL4 p 200000000)(hd:dq p≠⟨0,0⟩):SCt 123 [.row (mR p false)] (.r (.row (mR (inv4 p) false))):=by
 obtain⟨m1,m2,m3,m4⟩:=hp
 obtain⟨a,b,c,d⟩:=p
 unfold inv4
 by_cases hc:((⟨0,0⟩:QC) - c)=⟨0,0⟩
 ·have e:by4 (adj4 (a,b,c,d))=a:=if_pos hc
  have k:a≠⟨0,0⟩:=dq_cd (adj_ne hd) hc
  unfold nm4
  rw[e]
  exact eUndo0 a b c d m1 m2 m3 m4 hc k
 ·have e:by4 (adj4 (a,b,c,d))=(⟨0,0⟩:QC) - c:=if_neg hc
  unfold nm4
  rw[e]
  exact eUndoC a b c d m1 m2 m3 m4 hc
theorem Qdx{p:Q4}{k:Nat}(h:ZL4 p k)(hd:dq p≠⟨0,0⟩):ZL4 (inv4 p) (8*k+2):=nm4_zl (p:=adj4 p) ⟨h.2.2.2,ZL_n0 h.2.1,ZL_n0 h.2.2.1,h.1⟩ (adj_ne hd)
theorem mat_nilC{P:Program}{hp:Bool}{f:FuncId}{x y z:QC}{g:GF}{r:FV}(h:Qay P hp f [.row (cn x++cn y++cn ⟨0,0⟩++cn z++[g])] r):Qay P hp f [.row (cn x++cn y++[gl .nilp,gl .nilp]++cn z++[g])] r :=
 ⟨h.ent,fun w A us hR hA hu=>by
  match us,hu with
  | [u],hu =>
   obtain⟨⟨vs,e,k⟩,_⟩:=hu
   obtain⟨u1,_,rfl,h1,k⟩:=Qhz.1 k
   obtain⟨u2,_,rfl,h2,k⟩:=Qhz.1 k
   obtain⟨u3,_,rfl,h3,k⟩:=Qhz.1 k
   obtain⟨u4,_,rfl,h4,k⟩:=Qhz.1 k
   obtain⟨u5,_,rfl,h5,k⟩:=Qhz.1 k
   obtain⟨u6,_,rfl,h6,k⟩:=Qhz.1 k
   exact h.ok w A [u] hR hA ⟨⟨_,e,h1,h2,h3,h4,.inl ⟨h5,rfl⟩,.inl ⟨h6,rfl⟩,k⟩,trivial⟩⟩
theorem dq_aff{q:Rat}{b:QC}(h:q≠0):dq ((⟨q,0⟩:QC),b,(⟨0,0⟩:QC),(⟨1,0⟩:QC))≠⟨0,0⟩:=fun e=>h (by
 have e1:=congrArg QC.re e
 simp only[dq,qsr,qmr] at e1
 grind)
theorem qne{x y:Rat}(hx:0<x)(hy:0<y):x / y≠0:=fun e=>by
 have h:=pne hx
 have k:=pne hy
 grind
def hm4(z:QC):Q4:=((⟨1,0⟩:QC),(⟨0,0⟩:QC) - z,(⟨0,0⟩:QC) - cj z,(⟨1,0⟩:QC))
theorem Qdm{z:QC}(h:0<1 - nm z):dq (hm4 z)≠⟨0,0⟩:=fun e=>by
 have e1:=congrArg QC.re e
 simp only[hm4,dq,cj,qsr,qmr,qsi] at e1
 unfold nm at h
 grind
theorem inv_dq{m:Q4}(hd:dq m≠⟨0,0⟩):dq (inv4 m)≠⟨0,0⟩:=dq_smul (u:=by4 (adj4 m)) (by unfold inv4; rw[←nm4_smul (adj_ne hd)]; exact adj_ne hd)
theorem nm4_dq{q:Q4}(h:dq q≠⟨0,0⟩):dq (nm4 q)≠⟨0,0⟩:=dq_smul (u:=by4 q) (by rw[←nm4_smul h]; exact h)
theorem mul_dq{p q:Q4}(h:dq p≠⟨0,0⟩)(k:dq q≠⟨0,0⟩):dq (mul4 p q)≠⟨0,0⟩:=by rw[dq_mul]; exact mul_ne h k
end Go.Proofs.YtmimficdpfmfgaaGreat
namespace Go.Proofs.YtmimficdpfmfgaaGreat
open Go.RowKit Tr
open Classical
def wq85(z w:QC):QC:=w - ((⟨(w.im / z.im),0⟩:QC)*z)
theorem wq85_b0(z w:QC)(b_z:Qab z)(b_w:Qab w)(hz:hN1 z):ZL (wq85 z w) 7170:=(Qgj (Qaa b_w) (Qah (Qby (Qim (pne (Qen hz)) (Qat w (Qaa b_w)) (Qat z (Qaa b_z))) Qdq) (Qaa b_z))).mn
theorem pMov1(z w:QC)(b_z:Qab z)(b_w:Qab w)(hz:hN1 z)(hw:hN1 w):SCt 37 [gIi 1,.row ((Qad z).cells),.row ((Qad w).cells)] (if Sh4 (nm4 ((⟨(w.im / z.im),0⟩:QC),wq85 z w,(⟨0,0⟩:QC),(⟨1,0⟩:QC))) then .tup [.row ((Qad ((nm4 ((⟨(w.im / z.im),0⟩:QC),wq85 z w,(⟨0,0⟩:QC),(⟨1,0⟩:QC))).1)).cells++(Qad ((nm4 ((⟨(w.im / z.im),0⟩:QC),wq85 z w,(⟨0,0⟩:QC),(⟨1,0⟩:QC))).2.1)).cells++(Qad ((nm4 ((⟨(w.im / z.im),0⟩:QC),wq85 z w,(⟨0,0⟩:QC),(⟨1,0⟩:QC))).2.2.1)).cells++(Qad ((nm4 ((⟨(w.im / z.im),0⟩:QC),wq85 z w,(⟨0,0⟩:QC),(⟨1,0⟩:QC))).2.2.2)).cells++[gl (.bool false)]),gIi 0] else .tup [.row (zGG++zGG++zGG++zGG++[gl (.bool false)]),gIi 4]) :=
  have t1:=pGInt 0 1 (by decide) (by decide) (by decide) (by decide)
  have t2:=pGInt 0 0 (by decide) (by decide) (by decide) (by decide)
  have t3:=Qcf z ((Qaa b_z).mn)
  have t4:=Qcf w ((Qaa b_w).mn)
  have t5:=Qcg w.im z.im ((Qat w (Qaa b_w)).mn) ((Qat z (Qaa b_z)).mn) (pne (Qen hz))
  have t6:=Qdf (w.im / z.im)
  have t7:=Qbe (⟨(w.im / z.im),0⟩:QC) z (Qby (Qim (pne (Qen hz)) (Qat w (Qaa b_w)) (Qat z (Qaa b_z))) Qdq) (Qaa b_z) (by decide)
  have t8:=Qij w ((⟨(w.im / z.im),0⟩:QC)*z) (Qaa b_w) (Qah (Qby (Qim (pne (Qen hz)) (Qat w (Qaa b_w)) (Qat z (Qaa b_z))) Qdq) (Qaa b_z)) (by decide)
  have t9:=Qiw 1 0 (by decide) (by decide) (by decide) (by decide)
  have t10:=mat_nilC (eTold false ((⟨(w.im / z.im),0⟩:QC),wq85 z w,(⟨0,0⟩:QC),(⟨1,0⟩:QC)) ⟨((Qby (Qim (pne (Qen hz)) (Qat w (Qaa b_w)) (Qat z (Qaa b_z))) Qdq).mn),((wq85_b0 z w b_z b_w hz).mn),(zk (⟨0,0⟩:QC)),(zk (⟨1,0⟩:QC))⟩ (dq_aff (qne (Qen hw) (Qen hz))))
  (Classical.em (Sh4 (nm4 ((⟨(w.im / z.im),0⟩ : QC),wq85 z w,(⟨0,0⟩ : QC),(⟨1,0⟩ : QC))))).elim (fun h0 => .it h0 (Qba (L := [(Qad z).cells,(Qad w).cells,(Qad (⟨0,1⟩ : QC)).cells,(Qad (⟨0,0⟩ : QC)).cells,cn z,[gr z.re],[gr z.im],[gxi z.im.num.sign],cn w,[gr w.re],[gr w.im],[gxi w.im.num.sign],[gr (w.im / z.im)],cn (⟨(w.im / z.im),0⟩ : QC),cn ((⟨(w.im / z.im),0⟩ : QC) * z),cn (wq85 z w),cn (⟨1,0⟩ : QC),(Qad ((nm4 ((⟨(w.im / z.im),0⟩ : QC),wq85 z w,(⟨0,0⟩ : QC),(⟨1,0⟩ : QC))).1)).cells,(Qad ((nm4 ((⟨(w.im / z.im),0⟩ : QC),wq85 z w,(⟨0,0⟩ : QC),(⟨1,0⟩ : QC))).2.1)).cells,(Qad ((nm4 ((⟨(w.im / z.im),0⟩ : QC),wq85 z w,(⟨0,0⟩ : QC),(⟨1,0⟩ : QC))).2.2.1)).cells,(Qad ((nm4 ((⟨(w.im / z.im),0⟩ : QC),wq85 z w,(⟨0,0⟩ : QC),(⟨1,0⟩ : QC))).2.2.2)).cells].flatten) Qae Qai
     [gs (t1) [lc 0,lc 1] (.r (yR 16 8)),gs (t2) [lc 0,lc 0] (.r (yR 24 8)),gs (Qej z b_z) [yR 0 8] (.tup [sy [32,33],cTt]),gs (t3) [sy [32,33]] (.tup [cS 34,cS 35]),gs (Qau z.im) [cS 35] (rS 36),gs (Qej w b_w) [yR 8 8] (.tup [sy [37,38],cTt]),gs (t4) [sy [37,38]] (.tup [cS 39,cS 40]),gs (Qau w.im) [cS 40] (rS 41),gs (t5) [cS 40,cS 35] (rS 42),gs (t6) [cS 42] (.r (sy [43,44])),gs (t7) [sy [43,44],sy [32,33]] (.r (sy [45,46])),gs (t8) [sy [37,38],sy [45,46]] (.r (sy [47,48])),gs (t9) [lc 1,lc 0] (.r (sy [49,50])),gs (t10.t h0) [.row [.sym 43,.sym 44,.sym 47,.sym 48,.lit .nilp,.lit .nilp,.sym 49,.sym 50,.lit (.bool false)]] (.tup [.row (flA [Qaj 51 32,[.lit (.bool false)]]),lc 0])]
     [bLf 3 36 hz,bLf 3 41 hw] [] ((Qhq (fs70 (Qha (Qhb (Qhc (fs81 (Qgz (fs99 .nil)))))))):FnsOk Tryz.prog _) 1 3 Tryz.func37 eo37 2000 [lc 1,yR 0 8,yR 8 8] (.tup [.row (flA [Qaj 51 32,[.lit (.bool false)]]),lc 0])))
   (fun h0=>.ie (fun h=>h0 h) (Qba (L:=[(Qad z).cells,(Qad w).cells,(Qad (⟨0,1⟩:QC)).cells,(Qad (⟨0,0⟩:QC)).cells,cn z,[gr z.re],[gr z.im],[gxi z.im.num.sign],cn w,[gr w.re],[gr w.im],[gxi w.im.num.sign],[gr (w.im / z.im)],cn (⟨(w.im / z.im),0⟩:QC),cn ((⟨(w.im / z.im),0⟩:QC)*z),cn (wq85 z w),cn (⟨1,0⟩:QC)].flatten) Qae Qai
     [gs (t1) [lc 0,lc 1] (.r (yR 16 8)),gs (t2) [lc 0,lc 0] (.r (yR 24 8)),gs (Qej z b_z) [yR 0 8] (.tup [sy [32,33],cTt]),gs (t3) [sy [32,33]] (.tup [cS 34,cS 35]),gs (Qau z.im) [cS 35] (rS 36),gs (Qej w b_w) [yR 8 8] (.tup [sy [37,38],cTt]),gs (t4) [sy [37,38]] (.tup [cS 39,cS 40]),gs (Qau w.im) [cS 40] (rS 41),gs (t5) [cS 40,cS 35] (rS 42),gs (t6) [cS 42] (.r (sy [43,44])),gs (t7) [sy [43,44],sy [32,33]] (.r (sy [45,46])),gs (t8) [sy [37,38],sy [45,46]] (.r (sy [47,48])),gs (t9) [lc 1,lc 0] (.r (sy [49,50])),gs (t10.f h0) [.row [.sym 43,.sym 44,.sym 47,.sym 48,.lit .nilp,.lit .nilp,.sym 49,.sym 50,.lit (.bool false)]] (.tup [.row (flA [zGA,zGA,zGA,zGA,[.lit (.bool false)]]),lc 4])]
     [bLf 3 36 hz,bLf 3 41 hw] [] ((Qhq (fs70 (Qha (Qhb (Qhc (fs81 (Qgz (fs99 .nil)))))))):FnsOk Tryz.prog _) 1 3 Tryz.func37 eo37 2000 [lc 1,yR 0 8,yR 8 8] (.tup [.row (flA [zGA,zGA,zGA,zGA,[.lit (.bool false)]]),lc 4])))
def mv1(z w:QC):Q4:=nm4 ((⟨w.im / z.im,0⟩:QC),(⟨w.re - ((w.im / z.im)*z.re),0⟩:QC),(⟨0,0⟩:QC),(⟨1,0⟩:QC))
def mv2(z w:QC):Q4:=nm4 (mul4 (inv4 (hm4 w)) (hm4 z))
theorem pMov2(z w:QC)(b_z:Qab z)(b_w:Qab w)(hz:hN2 z)(hw:hN2 w):SCt 37 [gIi 2,.row ((Qad z).cells),.row ((Qad w).cells)] (if Sh4 (nm4 (mv2 z w)) then .tup [.row ((Qad ((nm4 (mv2 z w)).1)).cells++(Qad ((nm4 (mv2 z w)).2.1)).cells++(Qad ((nm4 (mv2 z w)).2.2.1)).cells++(Qad ((nm4 (mv2 z w)).2.2.2)).cells++[gl (.bool false)]),gIi 0] else .tup [.row (zGG++zGG++zGG++zGG++[gl (.bool false)]),gIi 4]) :=
  have t1:=pGInt 0 1 (by decide) (by decide) (by decide) (by decide)
  have t2:=pGInt 0 0 (by decide) (by decide) (by decide) (by decide)
  have t3:=pnr 1
  have t4:=Qea z ((Qaa b_z).mn)
  have t5:=Qda (1:Rat) (nm z) (ri 1) ((Qbz (Qaa b_z)).mn)
  have t6:=Qau ((1:Rat) - (nm z))
  have t7:=Qea w ((Qaa b_w).mn)
  have t8:=Qda (1:Rat) (nm w) (ri 1) ((Qbz (Qaa b_w)).mn)
  have t9:=Qau ((1:Rat) - (nm w))
  have t10:=pHome w ((Qaa b_w).mn)
  have t11:=eUndo (hm4 w) ⟨(zk (⟨1,0⟩:QC)),((Qbg w (Qaa b_w)).mn),((Qbh w (Qaa b_w)).mn),(zk (⟨1,0⟩:QC))⟩ (Qdm (Qen hw))
  have t12:=pHome z ((Qaa b_z).mn)
  have t13:=eBeh false false ((inv4 (hm4 w)).1) ((inv4 (hm4 w)).2.1) ((inv4 (hm4 w)).2.2.1) ((inv4 (hm4 w)).2.2.2) (hm4 z) ⟨(((Qdx (p:=(hm4 w)) ⟨(zk (⟨1,0⟩:QC)),Qbg w (Qaa b_w),Qbh w (Qaa b_w),(zk (⟨1,0⟩:QC))⟩ (Qdm (Qen hw))).1).mn),(((Qdx (p:=(hm4 w)) ⟨(zk (⟨1,0⟩:QC)),Qbg w (Qaa b_w),Qbh w (Qaa b_w),(zk (⟨1,0⟩:QC))⟩ (Qdm (Qen hw))).2.1).mn),(((Qdx (p:=(hm4 w)) ⟨(zk (⟨1,0⟩:QC)),Qbg w (Qaa b_w),Qbh w (Qaa b_w),(zk (⟨1,0⟩:QC))⟩ (Qdm (Qen hw))).2.2.1).mn),(((Qdx (p:=(hm4 w)) ⟨(zk (⟨1,0⟩:QC)),Qbg w (Qaa b_w),Qbh w (Qaa b_w),(zk (⟨1,0⟩:QC))⟩ (Qdm (Qen hw))).2.2.2).mn)⟩ ⟨(zk (⟨1,0⟩:QC)),((Qbg z (Qaa b_z)).mn),((Qbh z (Qaa b_z)).mn),(zk (⟨1,0⟩:QC))⟩ (mul_dq (inv_dq (Qdm (Qen hw))) (Qdm (Qen hz)))
  have t14:=eTold false (mv2 z w) ⟨(((nm4_zl (p:=mul4 (inv4 (hm4 w)) (hm4 z)) (stp_zl (t:=false) (p:=(hm4 z)) ⟨(Qdx (p:=(hm4 w)) ⟨(zk (⟨1,0⟩:QC)),Qbg w (Qaa b_w),Qbh w (Qaa b_w),(zk (⟨1,0⟩:QC))⟩ (Qdm (Qen hw))).1,(Qdx (p:=(hm4 w)) ⟨(zk (⟨1,0⟩:QC)),Qbg w (Qaa b_w),Qbh w (Qaa b_w),(zk (⟨1,0⟩:QC))⟩ (Qdm (Qen hw))).2.1,(Qdx (p:=(hm4 w)) ⟨(zk (⟨1,0⟩:QC)),Qbg w (Qaa b_w),Qbh w (Qaa b_w),(zk (⟨1,0⟩:QC))⟩ (Qdm (Qen hw))).2.2.1,(Qdx (p:=(hm4 w)) ⟨(zk (⟨1,0⟩:QC)),Qbg w (Qaa b_w),Qbh w (Qaa b_w),(zk (⟨1,0⟩:QC))⟩ (Qdm (Qen hw))).2.2.2⟩ ⟨(zk (⟨1,0⟩:QC)),Qbg z (Qaa b_z),Qbh z (Qaa b_z),(zk (⟨1,0⟩:QC))⟩) (mul_dq (inv_dq (Qdm (Qen hw))) (Qdm (Qen hz)))).1).mn),(((nm4_zl (p:=mul4 (inv4 (hm4 w)) (hm4 z)) (stp_zl (t:=false) (p:=(hm4 z)) ⟨(Qdx (p:=(hm4 w)) ⟨(zk (⟨1,0⟩:QC)),Qbg w (Qaa b_w),Qbh w (Qaa b_w),(zk (⟨1,0⟩:QC))⟩ (Qdm (Qen hw))).1,(Qdx (p:=(hm4 w)) ⟨(zk (⟨1,0⟩:QC)),Qbg w (Qaa b_w),Qbh w (Qaa b_w),(zk (⟨1,0⟩:QC))⟩ (Qdm (Qen hw))).2.1,(Qdx (p:=(hm4 w)) ⟨(zk (⟨1,0⟩:QC)),Qbg w (Qaa b_w),Qbh w (Qaa b_w),(zk (⟨1,0⟩:QC))⟩ (Qdm (Qen hw))).2.2.1,(Qdx (p:=(hm4 w)) ⟨(zk (⟨1,0⟩:QC)),Qbg w (Qaa b_w),Qbh w (Qaa b_w),(zk (⟨1,0⟩:QC))⟩ (Qdm (Qen hw))).2.2.2⟩ ⟨(zk (⟨1,0⟩:QC)),Qbg z (Qaa b_z),Qbh z (Qaa b_z),(zk (⟨1,0⟩:QC))⟩) (mul_dq (inv_dq (Qdm (Qen hw))) (Qdm (Qen hz)))).2.1).mn),(((nm4_zl (p:=mul4 (inv4 (hm4 w)) (hm4 z)) (stp_zl (t:=false) (p:=(hm4 z)) ⟨(Qdx (p:=(hm4 w)) ⟨(zk (⟨1,0⟩:QC)),Qbg w (Qaa b_w),Qbh w (Qaa b_w),(zk (⟨1,0⟩:QC))⟩ (Qdm (Qen hw))).1,(Qdx (p:=(hm4 w)) ⟨(zk (⟨1,0⟩:QC)),Qbg w (Qaa b_w),Qbh w (Qaa b_w),(zk (⟨1,0⟩:QC))⟩ (Qdm (Qen hw))).2.1,(Qdx (p:=(hm4 w)) ⟨(zk (⟨1,0⟩:QC)),Qbg w (Qaa b_w),Qbh w (Qaa b_w),(zk (⟨1,0⟩:QC))⟩ (Qdm (Qen hw))).2.2.1,(Qdx (p:=(hm4 w)) ⟨(zk (⟨1,0⟩:QC)),Qbg w (Qaa b_w),Qbh w (Qaa b_w),(zk (⟨1,0⟩:QC))⟩ (Qdm (Qen hw))).2.2.2⟩ ⟨(zk (⟨1,0⟩:QC)),Qbg z (Qaa b_z),Qbh z (Qaa b_z),(zk (⟨1,0⟩:QC))⟩) (mul_dq (inv_dq (Qdm (Qen hw))) (Qdm (Qen hz)))).2.2.1).mn),(((nm4_zl (p:=mul4 (inv4 (hm4 w)) (hm4 z)) (stp_zl (t:=false) (p:=(hm4 z)) ⟨(Qdx (p:=(hm4 w)) ⟨(zk (⟨1,0⟩:QC)),Qbg w (Qaa b_w),Qbh w (Qaa b_w),(zk (⟨1,0⟩:QC))⟩ (Qdm (Qen hw))).1,(Qdx (p:=(hm4 w)) ⟨(zk (⟨1,0⟩:QC)),Qbg w (Qaa b_w),Qbh w (Qaa b_w),(zk (⟨1,0⟩:QC))⟩ (Qdm (Qen hw))).2.1,(Qdx (p:=(hm4 w)) ⟨(zk (⟨1,0⟩:QC)),Qbg w (Qaa b_w),Qbh w (Qaa b_w),(zk (⟨1,0⟩:QC))⟩ (Qdm (Qen hw))).2.2.1,(Qdx (p:=(hm4 w)) ⟨(zk (⟨1,0⟩:QC)),Qbg w (Qaa b_w),Qbh w (Qaa b_w),(zk (⟨1,0⟩:QC))⟩ (Qdm (Qen hw))).2.2.2⟩ ⟨(zk (⟨1,0⟩:QC)),Qbg z (Qaa b_z),Qbh z (Qaa b_z),(zk (⟨1,0⟩:QC))⟩) (mul_dq (inv_dq (Qdm (Qen hw))) (Qdm (Qen hz)))).2.2.2).mn)⟩ (nm4_dq (mul_dq (inv_dq (Qdm (Qen hw))) (Qdm (Qen hz))))
  (Classical.em (Sh4 (nm4 (mv2 z w)))).elim (fun h0 => .it h0 (Qba (L := [(Qad z).cells,(Qad w).cells,(Qad (⟨0,1⟩ : QC)).cells,(Qad (⟨0,0⟩ : QC)).cells,cn z,[gr (1 : Rat)],[gr (nm z)],[gr ((1 : Rat) - (nm z))],[gxi (((1 : Rat) - (nm z)).num.sign)],cn w,[gr (nm w)],[gr ((1 : Rat) - (nm w))],[gxi (((1 : Rat) - (nm w)).num.sign)],cn (⟨1,0⟩ : QC),cn ((⟨0,0⟩ : QC) - w),cn ((⟨0,0⟩ : QC) - (cj w)),cn (⟨1,0⟩ : QC),cn ((inv4 (hm4 w)).1),cn ((inv4 (hm4 w)).2.1),cn ((inv4 (hm4 w)).2.2.1),cn ((inv4 (hm4 w)).2.2.2),cn (⟨1,0⟩ : QC),cn ((⟨0,0⟩ : QC) - z),cn ((⟨0,0⟩ : QC) - (cj z)),cn (⟨1,0⟩ : QC),cn ((mv2 z w).1),cn ((mv2 z w).2.1),cn ((mv2 z w).2.2.1),cn ((mv2 z w).2.2.2),(Qad ((nm4 (mv2 z w)).1)).cells,(Qad ((nm4 (mv2 z w)).2.1)).cells,(Qad ((nm4 (mv2 z w)).2.2.1)).cells,(Qad ((nm4 (mv2 z w)).2.2.2)).cells].flatten) Qae Qai
     [gs (t1) [lc 0,lc 1] (.r (yR 16 8)),gs (t2) [lc 0,lc 0] (.r (yR 24 8)),gs (Qej z b_z) [yR 0 8] (.tup [sy [32,33],cTt]),gs (t3) [lc 1,lc 1] (rS 34),gs (t4) [sy [32,33]] (rS 35),gs (t5) [cS 34,cS 35] (rS 36),gs (t6) [cS 36] (rS 37),gs (Qej w b_w) [yR 8 8] (.tup [sy [38,39],cTt]),gs (t7) [sy [38,39]] (rS 40),gs (t8) [cS 34,cS 40] (rS 41),gs (t9) [cS 41] (rS 42),gs (t10) [sy [38,39]] (.r (.row (flA [Qaj 43 8,[.lit (.bool false)]]))),gs (t11) [.row (flA [Qaj 43 8,[.lit (.bool false)]])] (.r (.row (flA [Qaj 51 8,[.lit (.bool false)]]))),gs (t12) [sy [32,33]] (.r (.row (flA [Qaj 59 8,[.lit (.bool false)]]))),gs (t13) [.row (flA [Qaj 51 8,[.lit (.bool false)]]),.row (flA [Qaj 59 8,[.lit (.bool false)]])] (.r (.row (flA [Qaj 67 8,[.lit (.bool false)]]))),gs (t14.t h0) [.row (flA [Qaj 67 8,[.lit (.bool false)]])] (.tup [.row (flA [Qaj 75 32,[.lit (.bool false)]]),lc 0])]
     [bLf 3 37 hz,bLf 3 42 hw] [] ((Qhq (fs70 (Qha (Qhb (Qhc (fs81 (Qgz (fs99 .nil)))))))):FnsOk Tryz.prog _) 1 3 Tryz.func37 eo37 2000 [lc 2,yR 0 8,yR 8 8] (.tup [.row (flA [Qaj 75 32,[.lit (.bool false)]]),lc 0])))
   (fun h0=>.ie (fun h=>h0 h) (Qba (L:=[(Qad z).cells,(Qad w).cells,(Qad (⟨0,1⟩:QC)).cells,(Qad (⟨0,0⟩:QC)).cells,cn z,[gr (1:Rat)],[gr (nm z)],[gr ((1:Rat) - (nm z))],[gxi (((1:Rat) - (nm z)).num.sign)],cn w,[gr (nm w)],[gr ((1:Rat) - (nm w))],[gxi (((1:Rat) - (nm w)).num.sign)],cn (⟨1,0⟩:QC),cn ((⟨0,0⟩:QC) - w),cn ((⟨0,0⟩:QC) - (cj w)),cn (⟨1,0⟩:QC),cn ((inv4 (hm4 w)).1),cn ((inv4 (hm4 w)).2.1),cn ((inv4 (hm4 w)).2.2.1),cn ((inv4 (hm4 w)).2.2.2),cn (⟨1,0⟩:QC),cn ((⟨0,0⟩:QC) - z),cn ((⟨0,0⟩:QC) - (cj z)),cn (⟨1,0⟩:QC),cn ((mv2 z w).1),cn ((mv2 z w).2.1),cn ((mv2 z w).2.2.1),cn ((mv2 z w).2.2.2)].flatten) Qae Qai
     [gs (t1) [lc 0,lc 1] (.r (yR 16 8)),gs (t2) [lc 0,lc 0] (.r (yR 24 8)),gs (Qej z b_z) [yR 0 8] (.tup [sy [32,33],cTt]),gs (t3) [lc 1,lc 1] (rS 34),gs (t4) [sy [32,33]] (rS 35),gs (t5) [cS 34,cS 35] (rS 36),gs (t6) [cS 36] (rS 37),gs (Qej w b_w) [yR 8 8] (.tup [sy [38,39],cTt]),gs (t7) [sy [38,39]] (rS 40),gs (t8) [cS 34,cS 40] (rS 41),gs (t9) [cS 41] (rS 42),gs (t10) [sy [38,39]] (.r (.row (flA [Qaj 43 8,[.lit (.bool false)]]))),gs (t11) [.row (flA [Qaj 43 8,[.lit (.bool false)]])] (.r (.row (flA [Qaj 51 8,[.lit (.bool false)]]))),gs (t12) [sy [32,33]] (.r (.row (flA [Qaj 59 8,[.lit (.bool false)]]))),gs (t13) [.row (flA [Qaj 51 8,[.lit (.bool false)]]),.row (flA [Qaj 59 8,[.lit (.bool false)]])] (.r (.row (flA [Qaj 67 8,[.lit (.bool false)]]))),gs (t14.f h0) [.row (flA [Qaj 67 8,[.lit (.bool false)]])] (.tup [.row (flA [zGA,zGA,zGA,zGA,[.lit (.bool false)]]),lc 4])]
     [bLf 3 37 hz,bLf 3 42 hw] [] ((Qhq (fs70 (Qha (Qhb (Qhc (fs81 (Qgz (fs99 .nil)))))))):FnsOk Tryz.prog _) 1 3 Tryz.func37 eo37 2000 [lc 2,yR 0 8,yR 8 8] (.tup [.row (flA [zGA,zGA,zGA,zGA,[.lit (.bool false)]]),lc 4])))
theorem hmn(z:QC):hm4 z=((⟨1,0⟩:QC),ng z,ng (cj z),(⟨1,0⟩:QC)):=by unfold hm4; rw[←ng_eq,←ng_eq]
theorem mv1_dq{z w:QC}(hz:0<z.im)(hw:0<w.im):dq (mv1 z w)≠⟨0,0⟩:=nm4_dq (dq_aff (qne hw hz))
theorem mv2_dq{z w:QC}(hz:0<1 - nm z)(hw:0<1 - nm w):dq (mv2 z w)≠⟨0,0⟩:=nm4_dq (mul_dq (inv_dq (Qdm hw)) (Qdm hz))
theorem mv2_nf{z w:QC}(hz:0<1 - nm z)(hw:0<1 - nm w):Nf (mv2 z w):=nm4_nf (mul_dq (inv_dq (Qdm hw)) (Qdm hz))
theorem mv1_eq{z w:QC}(hz:0<z.im):nm4 ((⟨(w.im / z.im),0⟩:QC),wq85 z w,(⟨0,0⟩:QC),(⟨1,0⟩:QC))=mv1 z w:=by
 unfold mv1
 have h0:=pne hz
 have e:wq85 z w=(⟨w.re - ((w.im / z.im)*z.re),0⟩:QC):=by
  apply Qbv<;>simp only[wq85,qsr,qsi,qmr,qmi]<;>grind
 rw[e]
theorem pMov1'(z w:QC)(b_z:Qab z)(b_w:Qab w)(hz:0<z.im)(hw:0<w.im):SCt 37 [gIi 1,.row (Qad z).cells,.row (Qad w).cells] (if Sh4 (mv1 z w) then .tup [.row (mQ (mv1 z w) false),gIi 0] else .tup [.row (zGG++zGG++zGG++zGG++[gl (.bool false)]),gIi 4]):=by
 have k:=pMov1 z w b_z b_w (fun h=>snegp h hz) (fun h=>snegp h hw)
 rw[mv1_eq hz] at k
 exact k
theorem pMov2'(z w:QC)(b_z:Qab z)(b_w:Qab w)(hz:0<1 - nm z)(hw:0<1 - nm w):SCt 37 [gIi 2,.row (Qad z).cells,.row (Qad w).cells] (if Sh4 (mv2 z w) then .tup [.row (mQ (mv2 z w) false),gIi 0] else .tup [.row (zGG++zGG++zGG++zGG++[gl (.bool false)]),gIi 4]):=by
 have k:=pMov2 z w b_z b_w (fun h=>snegp h hz) (fun h=>snegp h hw)
 rw[nm4_id (mv2_nf hz hw)] at k
 exact k
end Go.Proofs.YtmimficdpfmfgaaGreat
set_option linter.unusedSimpArgs false
namespace Go.Proofs.YtmimficdpfmfgaaGreat
open Go.RowKit Tr
theorem nm_mul(x y:QC):nm (x*y)=nm x*nm y:=by unfold nm; simp only[qmr,qmi]; grind
theorem nm_ne{x:QC}(h:x≠⟨0,0⟩):nm x≠0:=qc_nz h
theorem nm_nn(x:QC):0≤nm x:=by
 have a1:=rsq x.re
 have a2:=rsq x.im
 unfold nm; grind
theorem nm_cj(x:QC):nm (cj x)=nm x:=by unfold nm cj; grind
theorem nm_div{x y:QC}(h:y≠⟨0,0⟩):nm (x / y)=nm x / nm y:=by
 have e:nm y*nm (x / y)=nm x:=by rw[←nm_mul,qdm h]
 have k:=nm_ne h
 grind
theorem div_sub{a b c d:QC}(hb:b≠⟨0,0⟩)(hd:d≠⟨0,0⟩):a / b - c / d=(a*d - c*b) / (b*d):=by
 have h1:b*(a / b)=a:=qdm hb
 have h2:d*(c / d)=c:=qdm hd
 have h3:(b*d)*((a*d - c*b) / (b*d))=a*d - c*b:=qdm (mul_ne hb hd)
 generalize a / b=x at h1 ⊢
 generalize c / d=y at h2 ⊢
 have h4:(b*d)*(x - y)=a*d - c*b:=by
  rw[←h1,←h2]
  apply Qbv<;>simp only[qmr,qmi,qsr,qsi]<;>grind
 generalize (a*d - c*b) / (b*d)=u at h3 ⊢
 have h5:(b*d)*((x - y) - u)=⟨0,0⟩:=by
  have:(b*d)*((x - y) - u)=(b*d)*(x - y) - (b*d)*u:=by apply Qbv<;>simp only[qmr,qmi,qsr,qsi]<;>grind
  rw[this,h4,h3]
  apply Qbv<;>simp only[qsr,qsi]<;>grind
 exact qc_sub0.1 ((qmul0.1 h5).elim (fun k=>absurd k (mul_ne hb hd)) id)
def imq(x y:QC):Rat:=x.im*y.re - x.re*y.im
theorem im_div{x y:QC}(h:y≠⟨0,0⟩):(x / y).im=imq x y / nm y:=by
 have e:(x / y).im=(x.re*(-y.im)+x.im*y.re)*(nm y)⁻¹:=rfl
 rw[e,Rat.div_def]
 unfold imq
 congr 1
 grind
theorem hi_div{x y:QC}(h:y≠⟨0,0⟩):1 - nm (x / y)=(nm y - nm x) / nm y:=by
 rw[nm_div h]
 have k:=nm_ne h
 grind
theorem nm_sub_div{N1 D1 N2 D2:QC}(h1:D1≠⟨0,0⟩)(h2:D2≠⟨0,0⟩):nm (N1 / D1 - N2 / D2)=nm (N1*D2 - N2*D1) / (nm D1*nm D2):=by
 rw[div_sub h1 h2,nm_div (mul_ne h1 h2),nm_mul D1 D2]
theorem far2_q{N1 D1 N2 D2:QC}(h1:D1≠⟨0,0⟩)(h2:D2≠⟨0,0⟩)(k1:nm D1 - nm N1≠0)(k2:nm D2 - nm N2≠0):far2 (N1 / D1) (N2 / D2)=1+(nm (N1*D2 - N2*D1)+nm (N1*D2 - N2*D1)) / ((nm D1 - nm N1)*(nm D2 - nm N2)):=by
 unfold far2
 rw[nm_sub_div h1 h2,hi_div h1,hi_div h2]
 have a:=nm_ne h1
 have b:=nm_ne h2
 generalize nm (N1*D2 - N2*D1)=n
 generalize nm D1 - nm N1=x at *
 generalize nm D2 - nm N2=y at *
 grind
theorem far1_q{N1 D1 N2 D2:QC}(h1:D1≠⟨0,0⟩)(h2:D2≠⟨0,0⟩)(k1:imq N1 D1≠0)(k2:imq N2 D2≠0):far1 (N1 / D1) (N2 / D2)=1+nm (N1*D2 - N2*D1) / (imq N1 D1*imq N2 D2+imq N1 D1*imq N2 D2):=by
 unfold far1
 rw[nm_sub_div h1 h2,im_div h1,im_div h2]
 have a:=nm_ne h1
 have b:=nm_ne h2
 generalize nm (N1*D2 - N2*D1)=n
 generalize imq N1 D1=x at *
 generalize imq N2 D2=y at *
 grind
section
variable(a b z w:QC)
def rN:QC:=a*z+b
def rD:QC:=cj b*z+cj a
theorem rD_hi:nm (rD a b z) - nm (rN a b z)=(nm a - nm b)*(1 - nm z):=by
 unfold rD rN nm cj; simp only[qmr,qmi,qar,qai]; grind
theorem r_cross:rN a b z*rD a b w - rN a b w*rD a b z=(⟨nm a - nm b,0⟩:QC)*(z - w):=by
 unfold rD rN nm cj; apply Qbv<;>simp only[qmr,qmi,qar,qai,qsr,qsi]<;>grind
end
theorem Qfz{x y:QC}(h:0<nm y - nm x):y≠⟨0,0⟩:=fun e=>by
 rw[e] at h
 have e0:nm (⟨0,0⟩:QC)=0:=by unfold nm; grind
 rw[e0] at h
 have:=nm_nn x
 grind
theorem div_hi{x y:QC}(h:0<nm y - nm x):0<1 - nm (x / y):=by
 have k:=Qfz h
 rw[hi_div k,Rat.div_def]
 have k2:0<nm y:=by have:=nm_nn y; have:=nm_ne k; grind
 exact Qjk h (Rat.inv_pos.2 k2)
theorem far2_map{a b z w:QC}(hk:0<nm a - nm b)(hz:0<1 - nm z)(hw:0<1 - nm w):far2 (rN a b z / rD a b z) (rN a b w / rD a b w)=far2 z w∧rD a b z≠⟨0,0⟩∧0<1 - nm (rN a b z / rD a b z):=by
 have k1:0<nm (rD a b z) - nm (rN a b z):=by rw[rD_hi]; exact Qjk hk hz
 have k2:0<nm (rD a b w) - nm (rN a b w):=by rw[rD_hi]; exact Qjk hk hw
 refine⟨?_,Qfz k1,div_hi k1⟩
 rw[far2_q (Qfz k1) (Qfz k2) (pne k1) (pne k2),r_cross,nm_mul,rD_hi,rD_hi]
 have e:nm (⟨nm a - nm b,0⟩:QC)=(nm a - nm b)*(nm a - nm b):=by simp only[nm]; grind
 rw[e]
 unfold far2
 have n1:=pne hk
 have n2:=pne hz
 have n3:=pne hw
 generalize nm a - nm b=k at *
 generalize 1 - nm z=x at *
 generalize 1 - nm w=y at *
 generalize nm (z - w)=n
 grind
theorem far1_map{r t:Rat}{z w:QC}(hr:0<r)(hz:0<z.im)(hw:0<w.im):far1 ((⟨r,0⟩:QC)*z+⟨t,0⟩) ((⟨r,0⟩:QC)*w+⟨t,0⟩)=far1 z w∧0<((⟨r,0⟩:QC)*z+⟨t,0⟩).im:=by
 have e1:∀ z:QC,((⟨r,0⟩:QC)*z+⟨t,0⟩).im=r*z.im:=fun z=>by simp only[qmr,qmi,qar,qai]; grind
 have e2:nm (((⟨r,0⟩:QC)*z+⟨t,0⟩) - ((⟨r,0⟩:QC)*w+⟨t,0⟩))=r*r*nm (z - w):=by unfold nm; simp only[qmr,qmi,qar,qai,qsr,qsi]; grind
 refine⟨?_,by rw[e1]; exact Qjk hr hz⟩
 unfold far1
 rw[e1,e1,e2]
 have n1:=pne hr
 have n2:=pne hz
 have n3:=pne hw
 generalize nm (z - w)=n
 generalize z.im=x at *
 generalize w.im=y at *
 have k:r*r*n / (r*x*(r*y)+r*x*(r*y))=n / (x*y+x*y):=by
  rw[show r*x*(r*y)+r*x*(r*y)=(r*r)*(x*y+x*y) from by grind,Rat.div_def,Rat.div_def,Rat.inv_mul_rev]
  have:(r*r)⁻¹*(r*r)=1:=Rat.inv_mul_cancel _ (pne (Qjk hr hr))
  grind
 rw[k]
section
variable{z w:QC}
def cU(z:QC):QC:=(z - ⟨0,1⟩) / (z+⟨0,1⟩)
def cR(z:QC):QC:=(⟨0,-1⟩*z+⟨0,-1⟩) / (⟨1,0⟩*z+⟨-1,0⟩)
theorem cU_keeps(hz:0<z.im)(hw:0<w.im):far2 (cU z) (cU w)=far1 z w∧z+(⟨0,1⟩:QC)≠⟨0,0⟩∧0<1 - nm (cU z):=by
 have e:∀ z:QC,nm (z+(⟨0,1⟩:QC)) - nm (z - (⟨0,1⟩:QC))=4*z.im:=fun z=>by unfold nm; simp only[qar,qai,qsr,qsi]; grind
 have k1:0<nm (z+(⟨0,1⟩:QC)) - nm (z - (⟨0,1⟩:QC)):=by rw[e]; grind
 have k2:0<nm (w+(⟨0,1⟩:QC)) - nm (w - (⟨0,1⟩:QC)):=by rw[e]; grind
 refine⟨?_,Qfz k1,div_hi k1⟩
 unfold cU
 rw[far2_q (Qfz k1) (Qfz k2) (pne k1) (pne k2),e,e]
 have e2:nm ((z - (⟨0,1⟩:QC))*(w+⟨0,1⟩) - (w - (⟨0,1⟩:QC))*(z+⟨0,1⟩))=4*nm (z - w):=by unfold nm; simp only[qmr,qmi,qar,qai,qsr,qsi]; grind
 rw[e2]
 unfold far1
 have n2:=pne hz
 have n3:=pne hw
 generalize nm (z - w)=n
 grind
theorem cR_keeps(hz:0<1 - nm z)(hw:0<1 - nm w):far1 (cR z) (cR w)=far2 z w∧(⟨1,0⟩:QC)*z+⟨-1,0⟩≠⟨0,0⟩∧0<(cR z).im:=by
 have e:∀ z:QC,imq (⟨0,-1⟩*z+⟨0,-1⟩) ((⟨1,0⟩:QC)*z+⟨-1,0⟩)=1 - nm z:=fun z=>by unfold imq nm; simp only[qmr,qmi,qar,qai]; grind
 have d:∀ z:QC,0<1 - nm z→(⟨1,0⟩:QC)*z+⟨-1,0⟩≠⟨0,0⟩:=fun z hz h=>by
  have h1:=congrArg QC.re h
  have h2:=congrArg QC.im h
  simp only[qmr,qmi,qar,qai] at h1 h2
  have h3:z.re=1:=by grind
  have h4:z.im=0:=by grind
  unfold nm at hz
  rw[h3,h4] at hz
  revert hz; decide +kernel
 refine⟨?_,d z hz,?_⟩
 ·unfold cR
  rw[far1_q (d z hz) (d w hw) (by rw[e]; exact pne hz) (by rw[e]; exact pne hw),e,e]
  have e2:nm ((⟨0,-1⟩*z+⟨0,-1⟩)*((⟨1,0⟩:QC)*w+⟨-1,0⟩) - (⟨0,-1⟩*w+⟨0,-1⟩)*((⟨1,0⟩:QC)*z+⟨-1,0⟩))=4*nm (z - w):=by unfold nm; simp only[qmr,qmi,qar,qai,qsr,qsi]; grind
  rw[e2]
  unfold far2
  have n2:=pne hz
  have n3:=pne hw
  generalize nm (z - w)=n
  generalize 1 - nm z=x at *
  generalize 1 - nm w=y at *
  grind
 ·unfold cR
  rw[im_div (d z hz),e,Rat.div_def]
  have k2:0<nm ((⟨1,0⟩:QC)*z+⟨-1,0⟩):=by have:=nm_nn ((⟨1,0⟩:QC)*z+⟨-1,0⟩); have:=nm_ne (d z hz); grind
  exact Qjk hz (Rat.inv_pos.2 k2)
end
def rfN(a b e d:Rat)(z:QC):QC:=((⟨0,0⟩:QC) - cj ⟨b,e⟩)*cj z - ⟨d,0⟩
def rfD(a b e d:Rat)(z:QC):QC:=⟨a*z.re,-(a*z.im)⟩+⟨b,e⟩
theorem rf_cross(a b e d:Rat)(z w:QC):rfN a b e d z*rfD a b e d w - rfN a b e d w*rfD a b e d z=(⟨a*d - (b*b+e*e),0⟩:QC)*cj (z - w):=by
 unfold rfN rfD cj; apply Qbv<;>simp only[qmr,qmi,qar,qai,qsr,qsi]<;>grind
theorem rf_hi1(a b d:Rat)(z:QC):imq (rfN a b 0 d z) (rfD a b 0 d z)=(b*b - a*d)*z.im:=by
 unfold imq rfN rfD cj; simp only[qmr,qmi,qar,qai,qsr,qsi]; grind
theorem rf_hi2(a b e:Rat)(z:QC):nm (rfD a b e a z) - nm (rfN a b e a z)=(b*b+e*e - a*a)*(1 - nm z):=by
 unfold rfN rfD nm cj; simp only[qmr,qmi,qar,qai,qsr,qsi]; grind
theorem over1_keeps{a b d:Rat}{z w:QC}(hp:0<b*b - a*d)(hz:0<z.im)(hw:0<w.im):far1 (rfN a b 0 d z / rfD a b 0 d z) (rfN a b 0 d w / rfD a b 0 d w)=far1 z w∧rfD a b 0 d z≠⟨0,0⟩∧0<(rfN a b 0 d z / rfD a b 0 d z).im:=by
 have dn:∀ z:QC,0<z.im→rfD a b 0 d z≠⟨0,0⟩:=fun z hz h=>by
  have k:imq (rfN a b 0 d z) (rfD a b 0 d z)=0:=by rw[h]; unfold imq; grind
  rw[rf_hi1] at k
  exact pne (Qjk hp hz) k
 refine⟨?_,dn z hz,?_⟩
 ·rw[far1_q (dn z hz) (dn w hw) (by rw[rf_hi1]; exact pne (Qjk hp hz)) (by rw[rf_hi1]; exact pne (Qjk hp hw)),rf_cross,nm_mul,nm_cj,rf_hi1,rf_hi1]
  have e:nm (⟨a*d - (b*b+0*0),0⟩:QC)=(b*b - a*d)*(b*b - a*d):=by simp only[nm]; grind
  rw[e]
  unfold far1
  have n1:=pne hp
  have n2:=pne hz
  have n3:=pne hw
  generalize b*b - a*d=k at *
  generalize nm (z - w)=n
  grind
 ·rw[im_div (dn z hz),rf_hi1,Rat.div_def]
  have k2:0<nm (rfD a b 0 d z):=by have:=nm_nn (rfD a b 0 d z); have:=nm_ne (dn z hz); grind
  exact Qjk (Qjk hp hz) (Rat.inv_pos.2 k2)
theorem over2_keeps{a b e:Rat}{z w:QC}(hp:0<b*b+e*e - a*a)(hz:0<1 - nm z)(hw:0<1 - nm w):far2 (rfN a b e a z / rfD a b e a z) (rfN a b e a w / rfD a b e a w)=far2 z w∧rfD a b e a z≠⟨0,0⟩∧0<1 - nm (rfN a b e a z / rfD a b e a z):=by
 have k1:0<nm (rfD a b e a z) - nm (rfN a b e a z):=by rw[rf_hi2]; exact Qjk hp hz
 have k2:0<nm (rfD a b e a w) - nm (rfN a b e a w):=by rw[rf_hi2]; exact Qjk hp hw
 refine⟨?_,Qfz k1,div_hi k1⟩
 rw[far2_q (Qfz k1) (Qfz k2) (pne k1) (pne k2),rf_cross,nm_mul,nm_cj,rf_hi2,rf_hi2]
 have e2:nm (⟨a*a - (b*b+e*e),0⟩:QC)=(b*b+e*e - a*a)*(b*b+e*e - a*a):=by simp only[nm]; grind
 rw[e2]
 unfold far2
 have n1:=pne hp
 have n2:=pne hz
 have n3:=pne hw
 generalize b*b+e*e - a*a=k at *
 generalize 1 - nm z=x at *
 generalize 1 - nm w=y at *
 generalize nm (z - w)=n
 grind
end Go.Proofs.YtmimficdpfmfgaaGreat
