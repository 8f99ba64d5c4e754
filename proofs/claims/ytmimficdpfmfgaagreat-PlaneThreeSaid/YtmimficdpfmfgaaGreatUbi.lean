/- Laws for the walk. -/
import Derived.Test.YtmimficdpfmfgaaGreatUbh
set_option linter.unusedVariables false
set_option linter.unusedSimpArgs false
set_option maxHeartbeats 4000000
set_option maxRecDepth 100000
namespace Go.Proofs.YtmimficdpfmfgaaGreat
open Go.RowKit Tr
open Classical
def wq21(f0 f3 g0 g3:Rat):Rat:=((f0*g3)+(f3*g0))*(1 / 2:Rat)
theorem wq21_b0(f0 f3 g0 g3:Rat){k:Nat}(b_f0:RL f0 k)(b_f3:RL f3 k)(b_g0:RL g0 k)(b_g3:RL g3 k):RL (wq21 f0 f3 g0 g3) (4*k+3):=(Qat (Qay (Qat b_f0 b_g3) (Qat b_f3 b_g0)) (RL_k (1 / 2:Rat) 2 (by decide +kernel))).mn
def wq22(f0 f1 f2 f3 g0 g1 g2 g3:Rat):Rat:=((f1*g1)+(f2*g2)) - (wq21 f0 f3 g0 g3)
theorem dProd(f0 f1 f2 f3 g0 g1 g2 g3:Rat)(b_f0:RL f0 1000000)(b_f1:RL f1 1000000)(b_f2:RL f2 1000000)(b_f3:RL f3 1000000)(b_g0:RL g0 1000000)(b_g1:RL g1 1000000)(b_g2:RL g2 1000000)(b_g3:RL g3 1000000) :SCt 112 [.row (rG (⟨f0,f1⟩:QC)++rG (⟨f2,f3⟩:QC)),.row (rG (⟨g0,g1⟩:QC)++rG (⟨g2,g3⟩:QC))] (.r (.row (rF (wq22 f0 f1 f2 f3 g0 g1 g2 g3)))) :=
  Qai (L := [cF f0,cF f1,cF f2,cF f3,cF g0,cF g1,cF g2,cF g3,cF (f1 * g1),cF (f2 * g2),cF ((f1 * g1) + (f2 * g2)),cF (f0 * g3),cF (f3 * g0),cF ((f0 * g3) + (f3 * g0)),cF (1 / 2 : Rat),cF (wq21 f0 f3 g0 g3),cF (wq22 f0 f1 f2 f3 g0 g1 g2 g3)].flatten) Qad Qag
     [gs (Qau f1 g1 b_f1.mn b_g1.mn) [yQ 3,yQ 15] (rQ 24),gs (Qau f2 g2 b_f2.mn b_g2.mn) [yQ 6,yQ 18] (rQ 27),gs (Qct (f1*g1) (f2*g2) ((Qat b_f1 b_g1).mn) ((Qat b_f2 b_g2).mn)) [yQ 24,yQ 27] (rQ 30),gs (Qau f0 g3 b_f0.mn b_g3.mn) [yQ 0,yQ 21] (rQ 33),gs (Qau f3 g0 b_f3.mn b_g0.mn) [yQ 9,yQ 12] (rQ 36),gs (Qct (f0*g3) (f3*g0) ((Qat b_f0 b_g3).mn) ((Qat b_f3 b_g0).mn)) [yQ 33,yQ 36] (rQ 39),gs (rfSmall 1 2 (1 / 2:Rat) (by decide) (by decide) (by decide) (by decide) (by decide) (by decide +kernel)) [lc 1,lc 2] (rQ 42),gs (Qau ((f0*g3)+(f3*g0)) (1 / 2:Rat) ((Qay (Qat b_f0 b_g3) (Qat b_f3 b_g0)).mn) ((RL_k (1 / 2:Rat) 2 (by decide +kernel)).mn)) [yQ 39,yQ 42] (rQ 45),gs (Qbk ((f1*g1)+(f2*g2)) (wq21 f0 f3 g0 g3) ((Qay (Qat b_f1 b_g1) (Qat b_f2 b_g2)).mn) ((wq21_b0 f0 f3 g0 g3 b_f0 b_f3 b_g0 b_g3).mn)) [yQ 30,yQ 45] (rQ 48)]
     [] [] ((fs197 .nil):Tr.FnsOk Tryz.prog _) 1 2 Tryz.func112 eo112 2000 [.row (gL [0,6]),.row (gL [12,18])] (rQ 48)
theorem dProd_q0(f0 f1 f2 f3 g0 g1 g2 g3:Rat) :wq22 f0 f1 f2 f3 g0 g1 g2 g3=Qfi f0 f1 f2 f3 g0 g1 g2 g3:=by
 simp only[wq22,wq21,Qfi]<;>grind
theorem dProd'(f0 f1 f2 f3 g0 g1 g2 g3:Rat)(b_f0:RL f0 1000000)(b_f1:RL f1 1000000)(b_f2:RL f2 1000000)(b_f3:RL f3 1000000)(b_g0:RL g0 1000000)(b_g1:RL g1 1000000)(b_g2:RL g2 1000000)(b_g3:RL g3 1000000):SCt 112 [.row (rG (⟨f0,f1⟩:QC)++rG (⟨f2,f3⟩:QC)),.row (rG (⟨g0,g1⟩:QC)++rG (⟨g2,g3⟩:QC))] (.r (.row (rF (Qfi f0 f1 f2 f3 g0 g1 g2 g3)))):=by
 have k_:=dProd f0 f1 f2 f3 g0 g1 g2 g3 b_f0 b_f1 b_f2 b_f3 b_g0 b_g1 b_g2 b_g3
 simp only[dProd_q0 f0 f1 f2 f3 g0 g1 g2 g3 ] at k_
 exact k_
theorem dCA(f0 f1 f2 f3:Rat)(b_f0:RL f0 1000000)(b_f1:RL f1 1000000)(b_f2:RL f2 1000000)(b_f3:RL f3 1000000)(kp:¬(((Qfi f0 f1 f2 f3 f0 f1 f2 f3).num.sign)≤0))(k0:¬(f0.num.sign=0)):SCt 115 [.row (rG (⟨f0,f1⟩:QC)++rG (⟨f2,f3⟩:QC))] (.tup [.row (rG (⟨f0 / f0,f1 / f0⟩:QC)++rG (⟨f2 / f0,f3 / f0⟩:QC)),gTt]) :=
  Qai (L := [cF f0,cF f1,cF f2,cF f3,cF (Qfi f0 f1 f2 f3 f0 f1 f2 f3),[gxi ((Qfi f0 f1 f2 f3 f0 f1 f2 f3).num.sign)],[gxi f0.num.sign],cF (f0 / f0),cF (f1 / f0),cF (f2 / f0),cF (f3 / f0)].flatten) Qad Qag
     [gs (dProd' f0 f1 f2 f3 f0 f1 f2 f3 b_f0.mn b_f1.mn b_f2.mn b_f3.mn b_f0.mn b_f1.mn b_f2.mn b_f3.mn) [.row (gL [0,6]),.row (gL [0,6])] (rQ 12),gs (Qbu (Qfi f0 f1 f2 f3 f0 f1 f2 f3)) [yQ 12] (rS 15),gs (Qbu f0) [yQ 0] (rS 16),gs (Qdd f0 f0 b_f0.mn b_f0.mn (Qbh k0)) [yQ 0,yQ 0] (rQ 17),gs (Qdd f1 f0 b_f1.mn b_f0.mn (Qbh k0)) [yQ 3,yQ 0] (rQ 20),gs (Qdd f2 f0 b_f2.mn b_f0.mn (Qbh k0)) [yQ 6,yQ 0] (rQ 23),gs (Qdd f3 f0 b_f3.mn b_f0.mn (Qbh k0)) [yQ 9,yQ 0] (rQ 26)]
     [bLf 3 15 kp,bI .eql 3 (.sym 16) (li 0) f0.num.sign 0 false (by simp[Qdn,k0])] [] ((fs109 (fs194 .nil)):FnsOk Tryz.prog _) 1 2 Tryz.func115 eo115 2000 [.row (gL [0,6])] (.tup [.row (gL [17,23]),cTt])
theorem dCB(f0 f1 f2 f3:Rat)(b_f0:RL f0 1000000)(b_f1:RL f1 1000000)(b_f2:RL f2 1000000)(b_f3:RL f3 1000000)(kp:¬(((Qfi f0 f1 f2 f3 f0 f1 f2 f3).num.sign)≤0))(k0:f0.num.sign=0)(k1:¬(f1.num.sign=0)):SCt 115 [.row (rG (⟨f0,f1⟩:QC)++rG (⟨f2,f3⟩:QC))] (.tup [.row (rG (⟨f0 / f1,f1 / f1⟩:QC)++rG (⟨f2 / f1,f3 / f1⟩:QC)),gTt]) :=
  Qai (L := [cF f0,cF f1,cF f2,cF f3,cF (Qfi f0 f1 f2 f3 f0 f1 f2 f3),[gxi ((Qfi f0 f1 f2 f3 f0 f1 f2 f3).num.sign)],[gxi f0.num.sign],[gxi f1.num.sign],cF (f0 / f1),cF (f1 / f1),cF (f2 / f1),cF (f3 / f1)].flatten) Qad Qag
     [gs (dProd' f0 f1 f2 f3 f0 f1 f2 f3 b_f0.mn b_f1.mn b_f2.mn b_f3.mn b_f0.mn b_f1.mn b_f2.mn b_f3.mn) [.row (gL [0,6]),.row (gL [0,6])] (rQ 12),gs (Qbu (Qfi f0 f1 f2 f3 f0 f1 f2 f3)) [yQ 12] (rS 15),gs (Qbu f0) [yQ 0] (rS 16),gs (Qbu f1) [yQ 3] (rS 17),gs (Qdd f0 f1 b_f0.mn b_f1.mn (Qbh k1)) [yQ 0,yQ 3] (rQ 18),gs (Qdd f1 f1 b_f1.mn b_f1.mn (Qbh k1)) [yQ 3,yQ 3] (rQ 21),gs (Qdd f2 f1 b_f2.mn b_f1.mn (Qbh k1)) [yQ 6,yQ 3] (rQ 24),gs (Qdd f3 f1 b_f3.mn b_f1.mn (Qbh k1)) [yQ 9,yQ 3] (rQ 27)]
     [bLf 3 15 kp,bI .eql 3 (.sym 16) (li 0) f0.num.sign 0 true (by simp[Qdn,k0]),bI .eql 3 (.sym 17) (li 0) f1.num.sign 0 false (by simp[Qdn,k1])] [] ((fs109 (fs194 .nil)):FnsOk Tryz.prog _) 1 2 Tryz.func115 eo115 2000 [.row (gL [0,6])] (.tup [.row (gL [18,24]),cTt])
theorem dCC(f0 f1 f2 f3:Rat)(b_f0:RL f0 1000000)(b_f1:RL f1 1000000)(b_f2:RL f2 1000000)(b_f3:RL f3 1000000)(kp:¬(((Qfi f0 f1 f2 f3 f0 f1 f2 f3).num.sign)≤0))(k0:f0.num.sign=0)(k1:f1.num.sign=0)(k2:¬(f2.num.sign=0)):SCt 115 [.row (rG (⟨f0,f1⟩:QC)++rG (⟨f2,f3⟩:QC))] (.tup [.row (rG (⟨f0 / f2,f1 / f2⟩:QC)++rG (⟨f2 / f2,f3 / f2⟩:QC)),gTt]) :=
  Qai (L := [cF f0,cF f1,cF f2,cF f3,cF (Qfi f0 f1 f2 f3 f0 f1 f2 f3),[gxi ((Qfi f0 f1 f2 f3 f0 f1 f2 f3).num.sign)],[gxi f0.num.sign],[gxi f1.num.sign],cF (f0 / f2),cF (f1 / f2),cF (f2 / f2),cF (f3 / f2)].flatten) Qad Qag
     [gs (dProd' f0 f1 f2 f3 f0 f1 f2 f3 b_f0.mn b_f1.mn b_f2.mn b_f3.mn b_f0.mn b_f1.mn b_f2.mn b_f3.mn) [.row (gL [0,6]),.row (gL [0,6])] (rQ 12),gs (Qbu (Qfi f0 f1 f2 f3 f0 f1 f2 f3)) [yQ 12] (rS 15),gs (Qbu f0) [yQ 0] (rS 16),gs (Qbu f1) [yQ 3] (rS 17),gs (Qdd f0 f2 b_f0.mn b_f2.mn (Qbh k2)) [yQ 0,yQ 6] (rQ 18),gs (Qdd f1 f2 b_f1.mn b_f2.mn (Qbh k2)) [yQ 3,yQ 6] (rQ 21),gs (Qdd f2 f2 b_f2.mn b_f2.mn (Qbh k2)) [yQ 6,yQ 6] (rQ 24),gs (Qdd f3 f2 b_f3.mn b_f2.mn (Qbh k2)) [yQ 9,yQ 6] (rQ 27)]
     [bLf 3 15 kp,bI .eql 3 (.sym 16) (li 0) f0.num.sign 0 true (by simp[Qdn,k0]),bI .eql 3 (.sym 17) (li 0) f1.num.sign 0 true (by simp[Qdn,k1])] [] ((fs109 (fs194 .nil)):FnsOk Tryz.prog _) 1 2 Tryz.func115 eo115 2000 [.row (gL [0,6])] (.tup [.row (gL [18,24]),cTt])
end Go.Proofs.YtmimficdpfmfgaaGreat
namespace Go.Proofs.YtmimficdpfmfgaaGreat
open Go.RowKit Tr
open Classical
theorem npos{q:Rat}:0<q.num↔0<q:=by
 constructor
 ·intro h
  have h1:0≤q:=Rat.num_nonneg.1 (by omega)
  have h2:q≠0:=fun e=>by rw[e] at h; exact absurd h (by decide)
  grind
 ·intro h
  have h1:0≤q.num:=Rat.num_nonneg.2 (by grind)
  have h2:q.num≠0:=fun e=>by rw[Rat.num_eq_zero.1 e] at h; exact absurd h (by decide)
  omega
theorem Qbg{q:Rat}(h:¬q.num.sign≤0):0<q:=by
 have h1:0<q.num:=by
  rcases Int.lt_trichotomy q.num 0 with k|k|k
  ·rw[Int.sign_eq_neg_one_of_neg k] at h; omega
  ·rw[k] at h; simp at h
  ·exact k
 exact npos.1 h1
theorem snegp{q:Rat}(h:q.num.sign≤0):¬0<q:=fun k=>by
 have h1:0<q.num:=npos.2 k
 rw[Int.sign_eq_one_of_pos h1] at h; omega
theorem ssgn{q:Rat}:q.num.sign=0↔q=0:=⟨fun h=>Rat.num_eq_zero.1 (Int.sign_eq_zero_iff_zero.1 h),fun h=>by rw[h]; rfl⟩
theorem Qdi{x y:Rat}(hx:0<x)(hy:0<y):0<x*y:=Rat.mul_pos hx hy
theorem pne{x:Rat}(hx:0<x):x≠0:=fun e=>by rw[e] at hx; exact absurd hx (by decide)
theorem rfFits(q:Rat)(r:Bool)(hr:r=true↔Qap q):Qbm Tryz.prog false 132 [F1 q] (B1 r) :=
 Qcn eo132 (ffits (decide (q.num<0)) false _ _ r (by rw[Bool.eq_iff_iff,decide_eq_true_eq]; exact hr)) (by kernel_rfl) (by kernel_rfl)
def Qfh{L:List GF}(t:TypeId)(x y:AR)(v:Value)(h:∀ xo yo w,(do eqGuard .eql t xo yo v v; binOp .eql t v v:Sem Value).run Tryz.prog w=.ok (.bool true) w)(hx:x.gv L=some v:=by kernel_rfl)(hy:y.gv L=some v:=by kernel_rfl):GB Tryz.prog L :=
 gb .eql t x y lTt h hx hy rfl
def zV(n:Nat):List Value:=(List.range (2*n)).map fun i=>if i % 2=0 then .bool false else .string ⟨#[]⟩
def byF(f0 f1 f2:Rat):Rat:=if f0=0 then if f1=0 then f2 else f1 else f0
def CirS(f0 f1 f2 f3:Rat):Prop:=Qap (f0 / byF f0 f1 f2)∧Qap (f1 / byF f0 f1 f2)∧Qap (f2 / byF f0 f1 f2)∧Qap (f3 / byF f0 f1 f2)
def cirF(f0 f1 f2 f3:Rat):List GF:=rF (f0 / byF f0 f1 f2)++rF (f1 / byF f0 f1 f2)++rF (f2 / byF f0 f1 f2)++rF (f3 / byF f0 f1 f2)
theorem by_ne{f0 f1 f2 f3:Rat}(h:0<Qfi f0 f1 f2 f3 f0 f1 f2 f3):byF f0 f1 f2≠0:=by
 unfold byF
 split
 ·split
  ·rename_i h0 h1
   intro h2
   rw[h0,h1,h2] at h
   simp only[Qfi] at h
   grind
  ·assumption
 ·assumption
theorem pCirc(f0 f1 f2 f3:Rat)(b0:RL f0 200000000)(b1:RL f1 200000000)(b2:RL f2 200000000)(b3:RL f3 200000000)(h:byF f0 f1 f2≠0) :
  SCt 103 [.row [gr f0,gr f1,gr f2,gr f3]] (if CirS f0 f1 f2 f3 then .tup [.row (cirF f0 f1 f2 f3),gIi 0] else .tup [.row (zGG++zGG),gIi 4]):=by
 have key:∀ by_:Rat,byF f0 f1 f2=by_→SCt 103 [.row [gr f0,gr f1,gr f2,gr f3]] (if Qap (f0 / by_)∧Qap (f1 / by_)∧Qap (f2 / by_)∧Qap (f3 / by_) then .tup [.row (rF (f0 / by_)++rF (f1 / by_)++(rF (f2 / by_)++rF (f3 / by_))),gIi 0] else .tup [.row (zGG++zGG),gIi 4]) →
   SCt 103 [.row [gr f0,gr f1,gr f2,gr f3]] (if CirS f0 f1 f2 f3 then .tup [.row (cirF f0 f1 f2 f3),gIi 0] else .tup [.row (zGG++zGG),gIi 4]):=by
  intro by_ e k_
  subst e
  by_cases hs:CirS f0 f1 f2 f3
  ·rw[if_pos hs]; exact k_.t hs
  ·rw[if_neg hs]; exact k_.f hs
 by_cases h0:f0=0
 ·by_cases h1:f1=0
  ·have e:byF f0 f1 f2=f2:=by unfold byF; rw[if_pos h0,if_pos h1]
   exact key _ e (pl_cC f0 f1 f2 f3 b0 b1 b2 b3 (ssgn.2 h0) (ssgn.2 h1) (fun k=>h (e.trans (ssgn.1 k))))
  ·have e:byF f0 f1 f2=f1:=by unfold byF; rw[if_pos h0,if_neg h1]
   exact key _ e (pl_cB f0 f1 f2 f3 b0 b1 b2 b3 (ssgn.2 h0) (fun k=>h1 (ssgn.1 k)))
 ·have e:byF f0 f1 f2=f0:=by unfold byF; rw[if_neg h0]
  exact key _ e (pl_cA f0 f1 f2 f3 b0 b1 b2 b3 (fun k=>h0 (ssgn.1 k)))
theorem dCirc(f0 f1 f2 f3:Rat)(b0:RL f0 1000000)(b1:RL f1 1000000)(b2:RL f2 1000000)(b3:RL f3 1000000)(h:0<Qfi f0 f1 f2 f3 f0 f1 f2 f3) :
  SCt 115 [.row (rF f0++rF f1++rF f2++rF f3)] (.tup [.row (cirF f0 f1 f2 f3),gTt]):=by
 have hn:=by_ne h
 unfold cirF
 by_cases h0:f0=0
 ·by_cases h1:f1=0
  ·have e:byF f0 f1 f2=f2:=by unfold byF; rw[if_pos h0,if_pos h1]
   rw[e] at hn ⊢
   exact dCC f0 f1 f2 f3 b0 b1 b2 b3 (fun k=>snegp k h) (ssgn.2 h0) (ssgn.2 h1) (fun k=>hn (ssgn.1 k))
  ·have e:byF f0 f1 f2=f1:=by unfold byF; rw[if_pos h0,if_neg h1]
   rw[e]
   exact dCB f0 f1 f2 f3 b0 b1 b2 b3 (fun k=>snegp k h) (ssgn.2 h0) (fun k=>h1 (ssgn.1 k))
 ·have e:byF f0 f1 f2=f0:=by unfold byF; rw[if_neg h0]
  rw[e]
  exact dCA f0 f1 f2 f3 b0 b1 b2 b3 (fun k=>snegp k h) (fun k=>h0 (ssgn.1 k))
end Go.Proofs.YtmimficdpfmfgaaGreat
set_option linter.unusedSimpArgs false
namespace Go.Proofs.YtmimficdpfmfgaaGreat
open Go.RowKit Tr
open Classical
theorem dpos{x:Rat}(h:0<x):0<x+x:=by grind
def far1(z w:QC):Rat:=1+nm (z - w) / (z.im*w.im+z.im*w.im)
def far2(z w:QC):Rat:=1+(nm (z - w)+nm (z - w)) / ((1 - nm z)*(1 - nm w))
end Go.Proofs.YtmimficdpfmfgaaGreat
set_option linter.unusedSimpArgs false
namespace Go.Proofs.YtmimficdpfmfgaaGreat
open Go.RowKit Tr
open Classical
theorem rsq(x:Rat):0≤x*x:=by
 by_cases h:0≤x
 ·exact Rat.mul_nonneg h h
 ·have h1:0≤-x:=by grind
  have h2:=Rat.mul_nonneg h1 h1
  grind
theorem nm_pos{z w:QC}(h:¬z=w):0<nm (z - w):=by
 have h0:nm (z - w)≠0:=qc_nz (fun e=>h (qc_sub0.1 e))
 have a1:=rsq (z - w).re
 have a2:=rsq (z - w).im
 have h1:0≤nm (z - w):=by unfold nm; grind
 grind
end Go.Proofs.YtmimficdpfmfgaaGreat
