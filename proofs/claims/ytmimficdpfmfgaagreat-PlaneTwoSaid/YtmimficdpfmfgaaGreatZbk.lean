/- Laws for the walk. -/
import Derived.Test.YtmimficdpfmfgaaGreatZbj
set_option linter.unusedVariables false
set_option linter.unusedSimpArgs false
set_option maxHeartbeats 4000000
set_option linter.unusedSimpArgs false
namespace Go.Proofs.YtmimficdpfmfgaaGreat
open Go.RowKit Tr
open Classical
theorem npos{q:Rat}:0<q.num↔0<q:=by
 constructor
 ·intro h
  have h1:0≤q:=Rat.num_nonneg.1 (by omega)
  have h2:q≠0:=fun e=>by rw[e] at h; exact absurd h (by decide)
  grind
 ·intro h
  have h1:0≤q.num:=Rat.num_nonneg.2 (by grind)
  have h2:q.num≠0:=fun e=>by rw[Rat.num_eq_zero.1 e] at h; exact absurd h (by decide)
  omega
theorem Qbl{q:Rat}(h:¬q.num.sign≤0):0<q:=by
 have h1:0<q.num:=by
  rcases Int.lt_trichotomy q.num 0 with k|k|k
  ·rw[Int.sign_eq_neg_one_of_neg k] at h; omega
  ·rw[k] at h; simp at h
  ·exact k
 exact npos.1 h1
theorem snegp{q:Rat}(h:q.num.sign≤0):¬0<q:=fun k=>by
 have h1:0<q.num:=npos.2 k
 rw[Int.sign_eq_one_of_pos h1] at h; omega
theorem ssgn{q:Rat}:q.num.sign=0↔q=0:=⟨fun h=>Rat.num_eq_zero.1 (Int.sign_eq_zero_iff_zero.1 h),fun h=>by rw[h]; rfl⟩
theorem mpos{x y:Rat}(hx:0<x)(hy:0<y):0<x*y:=Rat.mul_pos hx hy
theorem pne{x:Rat}(hx:0<x):x≠0:=fun e=>by rw[e] at hx; exact absurd hx (by decide)
theorem Qdr(q:Rat)(r:Bool)(hr:r=true↔Qam q):Qah Tryz.prog false 132 [F1 q] (B1 r) :=
 Qbd eo132 (ffits (decide (q.num<0)) false _ _ r (by rw[Bool.eq_iff_iff,decide_eq_true_eq]; exact hr)) (by kernel_rfl) (by kernel_rfl)
def Qax{L:List GF}(t:TypeId)(x y:AR)(v:Value)(h:∀ xo yo w,(do eqGuard .eql t xo yo v v; binOp .eql t v v:Sem Value).run Tryz.prog w=.ok (.bool true) w)(hx:x.gv L=some v:=by kernel_rfl)(hy:y.gv L=some v:=by kernel_rfl):GB Tryz.prog L :=
 gb .eql t x y (.lit (.bool true)) h hx hy rfl
def zV(n:Nat):List Value:=(List.range (2*n)).map fun i=>if i % 2=0 then .bool false else .string ⟨#[]⟩
def byF(f0 f1 f2:Rat):Rat:=if f0=0 then if f1=0 then f2 else f1 else f0
def CirS(f0 f1 f2 f3:Rat):Prop:=Qam (f0 / byF f0 f1 f2)∧Qam (f1 / byF f0 f1 f2)∧Qam (f2 / byF f0 f1 f2)∧Qam (f3 / byF f0 f1 f2)
def cirF(f0 f1 f2 f3:Rat):List GF:=rF (f0 / byF f0 f1 f2)++rF (f1 / byF f0 f1 f2)++rF (f2 / byF f0 f1 f2)++rF (f3 / byF f0 f1 f2)
theorem by_ne{f0 f1 f2 f3:Rat}(h:0<Qbw f0 f1 f2 f3 f0 f1 f2 f3):byF f0 f1 f2≠0:=by
 unfold byF
 split
 ·split
  ·rename_i h0 h1
   intro h2
   rw[h0,h1,h2] at h
   simp only[Qbw] at h
   grind
  ·assumption
 ·assumption
theorem pCirc(f0 f1 f2 f3:Rat)(b0:RL f0 200000000)(b1:RL f1 200000000)(b2:RL f2 200000000)(b3:RL f3 200000000)(h:byF f0 f1 f2≠0) :
  Qah Tryz.prog true 103 [.row [gr f0,gr f1,gr f2,gr f3]] (if CirS f0 f1 f2 f3 then .tup [.row (cirF f0 f1 f2 f3),.c (gl (.int .i64 0))] else .tup [.row (zGG++zGG),.c (gl (.int .i64 4))]):=by
 have key:∀ by_:Rat,byF f0 f1 f2=by_→Qah Tryz.prog true 103 [.row [gr f0,gr f1,gr f2,gr f3]] (if Qam (f0 / by_)∧Qam (f1 / by_)∧Qam (f2 / by_)∧Qam (f3 / by_) then .tup [.row (rF (f0 / by_)++rF (f1 / by_)++(rF (f2 / by_)++rF (f3 / by_))),.c (gl (.int .i64 0))] else .tup [.row (zGG++zGG),.c (gl (.int .i64 4))]) →
   Qah Tryz.prog true 103 [.row [gr f0,gr f1,gr f2,gr f3]] (if CirS f0 f1 f2 f3 then .tup [.row (cirF f0 f1 f2 f3),.c (gl (.int .i64 0))] else .tup [.row (zGG++zGG),.c (gl (.int .i64 4))]):=by
  intro by_ e k_
  subst e
  by_cases hs:CirS f0 f1 f2 f3
  ·rw[if_pos hs]; exact k_.t hs
  ·rw[if_neg hs]; exact k_.f hs
 by_cases h0:f0=0
 ·by_cases h1:f1=0
  ·have e:byF f0 f1 f2=f2:=by unfold byF; rw[if_pos h0,if_pos h1]
   exact key _ e (pl_cC f0 f1 f2 f3 b0 b1 b2 b3 (ssgn.2 h0) (ssgn.2 h1) (fun k=>h (e.trans (ssgn.1 k))))
  ·have e:byF f0 f1 f2=f1:=by unfold byF; rw[if_pos h0,if_neg h1]
   exact key _ e (pl_cB f0 f1 f2 f3 b0 b1 b2 b3 (ssgn.2 h0) (fun k=>h1 (ssgn.1 k)))
 ·have e:byF f0 f1 f2=f0:=by unfold byF; rw[if_neg h0]
  exact key _ e (pl_cA f0 f1 f2 f3 b0 b1 b2 b3 (fun k=>h0 (ssgn.1 k)))
theorem dCirc(f0 f1 f2 f3:Rat)(b0:RL f0 1000000)(b1:RL f1 1000000)(b2:RL f2 1000000)(b3:RL f3 1000000)(h:0<Qbw f0 f1 f2 f3 f0 f1 f2 f3) :
  Qah Tryz.prog true 115 [.row (rF f0++rF f1++rF f2++rF f3)] (.tup [.row (cirF f0 f1 f2 f3),.c (gl (.bool true))]):=by
 have hn:=by_ne h
 unfold cirF
 by_cases h0:f0=0
 ·by_cases h1:f1=0
  ·have e:byF f0 f1 f2=f2:=by unfold byF; rw[if_pos h0,if_pos h1]
   rw[e] at hn ⊢
   exact dCC f0 f1 f2 f3 b0 b1 b2 b3 (fun k=>snegp k h) (ssgn.2 h0) (ssgn.2 h1) (fun k=>hn (ssgn.1 k))
  ·have e:byF f0 f1 f2=f1:=by unfold byF; rw[if_pos h0,if_neg h1]
   rw[e]
   exact dCB f0 f1 f2 f3 b0 b1 b2 b3 (fun k=>snegp k h) (ssgn.2 h0) (fun k=>h1 (ssgn.1 k))
 ·have e:byF f0 f1 f2=f0:=by unfold byF; rw[if_neg h0]
  rw[e]
  exact dCA f0 f1 f2 f3 b0 b1 b2 b3 (fun k=>snegp k h) (fun k=>h0 (ssgn.1 k))
end Go.Proofs.YtmimficdpfmfgaaGreat
namespace Go.Proofs.YtmimficdpfmfgaaGreat
open Go.RowKit Tr
open Classical
theorem dpos{x:Rat}(h:0<x):0<x+x:=by grind
def far1(z w:QC):Rat:=1+nm (z - w) / (z.im*w.im+z.im*w.im)
def far2(z w:QC):Rat:=1+(nm (z - w)+nm (z - w)) / ((1 - nm z)*(1 - nm w))
def wq41(z w:QC):Rat:=(nm (z - w)) / ((z.im*w.im)+(z.im*w.im))
theorem wq41_b0(z w:QC){k:Nat}(b_z:ZL z k)(b_w:ZL w k)(hz:¬(z.im.num.sign≤0))(hw:¬(w.im.num.sign≤0)):RL (wq41 z w) (12*k+6):=(RL_dvd (pne (dpos (mpos (Qbl hz) (Qbl hw)))) (Qal (Qch b_z b_w)) (RL_add (RL_mul b_z.2 b_w.2) (RL_mul b_z.2 b_w.2))).mn
theorem dFar1(z w:QC)(b_z:ZL z 1024)(b_w:ZL w 1024)(hz:¬(z.im.num.sign≤0))(hw:¬(w.im.num.sign≤0)):Qah Tryz.prog true 43 [.c (gl (.int .i64 1)),.row (rG z),.row (rG w)] (.r (.row (rF ((1:Rat)+(wq41 z w))))) :=
  Qas (L := [cG z,cG w,cG (z - w),cF (nm (z - w)),cF (z.im * w.im),cF (1 : Rat),cF ((z.im * w.im) + (z.im * w.im)),cF (wq41 z w),cF ((1 : Rat) + (wq41 z w))].flatten) tys_ok mixed
     [gs (rMinus z w b_z.mn b_w.mn) [.row (gR 0),.row (gR 6)] (.r (.row (gR 12))),gs (Qcp (z - w) ((Qch b_z b_w).mn)) [.row (gR 12)] (rQ 18),gs (Qai z.im w.im (b_z.2.mn) (b_w.2.mn)) [.row (qS 3),.row (qS 9)] (rQ 21),gs (Qcl 1 (by decide) (by decide)) [lc 1] (rQ 24),gs (Qbi (z.im*w.im) (z.im*w.im) ((RL_mul b_z.2 b_w.2).mn) ((RL_mul b_z.2 b_w.2).mn)) [.row (qS 21),.row (qS 21)] (rQ 27),gs (Qcg (nm (z - w)) ((z.im*w.im)+(z.im*w.im)) ((Qal (Qch b_z b_w)).mn) ((RL_add (RL_mul b_z.2 b_w.2) (RL_mul b_z.2 b_w.2)).mn) (pne (dpos (mpos (Qbl hz) (Qbl hw))))) [.row (qS 18),.row (qS 27)] (rQ 30),gs (Qbi (1:Rat) (wq41 z w) (ri 1) ((wq41_b0 z w b_z b_w hz hw).mn)) [.row (qS 24),.row (qS 30)] (rQ 33)]
     [] [] ((Qcv (Qcn .nil)):FnsOk Tryz.prog _) 1 2 Tryz.func43 eo43 2000 [lc 1,.row (gR 0),.row (gR 6)] (rQ 33)
theorem dFar1_q0(z w:QC) :(1:Rat)+(wq41 z w)=far1 z w:=by
 simp only[wq41,far1]<;>grind
theorem dFar1'(z w:QC)(b_z:ZL z 1024)(b_w:ZL w 1024)(hz:¬(z.im.num.sign≤0))(hw:¬(w.im.num.sign≤0)):Qah Tryz.prog true 43 [.c (gl (.int .i64 1)),.row (rG z),.row (rG w)] (.r (.row (rF (far1 z w)))):=by
 have k_:=dFar1 z w b_z b_w hz hw
 simp only[dFar1_q0 z w ] at k_
 exact k_
def wq42(z w:QC):Rat:=((nm (z - w)) / (z.im*w.im))*(2:Rat)
theorem wq42_b0(z w:QC)(b_z:Qaf z)(b_w:Qaf w)(hz:¬(z.im.num.sign≤0))(hw:¬(w.im.num.sign≤0)):RL (wq42 z w) 20490:=(Qac ((nm (z - w)) / (z.im*w.im)) (2:Rat) (Qeb (pne (mpos (Qbl hz) (Qbl hw))) (Qal (Qch (Qaa b_z) (Qaa b_w))) (Qac z.im w.im (Qak z (Qaa b_z)) (Qak w (Qaa b_w)))) (ri 2)).mn
def wq43(z w:QC):Rat:=(1:Rat)+((wq42 z w) / (4:Rat))
theorem wq43_b0(z w:QC)(b_z:Qaf z)(b_w:Qaf w)(hz:¬(z.im.num.sign≤0))(hw:¬(w.im.num.sign≤0)):RL (wq43 z w) 40985:=(Qcz (1:Rat) ((wq42 z w) / (4:Rat)) (ri 1) (Qeb (by decide +kernel) (wq42_b0 z w b_z b_w hz hw) (rj 4))).mn
theorem pFar1(z w:QC)(b_z:Qaf z)(b_w:Qaf w)(hz:¬(z.im.num.sign≤0))(hw:¬(w.im.num.sign≤0)):Qah Tryz.prog true 36 [.c (gl (.int .i64 1)),.row ((Qae z).cells),.row ((Qae w).cells)] (if Qam (wq43 z w) then .tup [.row (rF (wq43 z w)),.c (gl (.int .i64 0))] else .tup [.row (zFG),.c (gl (.int .i64 4))]) :=
  have t1:=pGInt 0 1 (by decide) (by decide) (by decide) (by decide)
  have t2:=pGInt 0 0 (by decide) (by decide) (by decide) (by decide)
  have t3:=Qaz z ((Qaa b_z).mn)
  have t4:=Qaz w ((Qaa b_w).mn)
  have t5:=pNSub z w (Qaa b_z) (Qaa b_w) (by decide)
  have t6:=Qbn (z - w) ((Qch (Qaa b_z) (Qaa b_w)).mn)
  have t7:=Qao z.im w.im ((Qak z (Qaa b_z)).mn) ((Qak w (Qaa b_w)).mn)
  have t8:=Qbe (nm (z - w)) (z.im*w.im) ((Qal (Qch (Qaa b_z) (Qaa b_w))).mn) ((Qac z.im w.im (Qak z (Qaa b_z)) (Qak w (Qaa b_w))).mn) (pne (mpos (Qbl hz) (Qbl hw)))
  have t9:=Qbb 1 1 (by decide) (by decide) (by decide) (by decide) (by decide)
  have t10:=Qbb 2 1 (by decide) (by decide) (by decide) (by decide) (by decide)
  have t11:=Qao ((nm (z - w)) / (z.im*w.im)) (2:Rat) ((Qeb (pne (mpos (Qbl hz) (Qbl hw))) (Qal (Qch (Qaa b_z) (Qaa b_w))) (Qac z.im w.im (Qak z (Qaa b_z)) (Qak w (Qaa b_w)))).mn) (ri 2)
  have t12:=Qbb 4 1 (by decide) (by decide) (by decide) (by decide) (by decide)
  have t13:=Qbe (wq42 z w) (4:Rat) ((wq42_b0 z w b_z b_w hz hw).mn) (ri 4) (by decide +kernel)
  have t14:=pl_add (1:Rat) ((wq42 z w) / (4:Rat)) (ri 1) ((Qeb (by decide +kernel) (wq42_b0 z w b_z b_w hz hw) (rj 4)).mn)
  (Classical.em (Qam (wq43 z w))).elim (fun h0 => .it h0 (Qas (L := [(Qae z).cells,(Qae w).cells,(Qae (⟨0,1⟩ : QC)).cells,(Qae (⟨0,0⟩ : QC)).cells,cn z,[gr z.re],[gr z.im],[gx (.int .i64 z.im.num.sign)],cn w,[gr w.re],[gr w.im],[gx (.int .i64 w.im.num.sign)],cn (z - w),[gr (nm (z - w))],[gr (z.im * w.im)],[gr ((nm (z - w)) / (z.im * w.im))],[gr (1 : Rat)],[gr (2 : Rat)],[gr (wq42 z w)],[gr (4 : Rat)],[gr ((wq42 z w) / (4 : Rat))],[gr (wq43 z w)],cF (wq43 z w)].flatten) tys_ok mixed
     [gs (t1) [lc 0,lc 1] (.r (.row (Qab 16 8))),gs (t2) [lc 0,lc 0] (.r (.row (Qab 24 8))),gs (Qbm z b_z) [.row (Qab 0 8)] (.tup [sy [32,33],.c (.lit (.bool true))]),gs (t3) [sy [32,33]] (.tup [cS 34,cS 35]),gs (Qan z.im) [cS 35] (rS 36),gs (Qbm w b_w) [.row (Qab 8 8)] (.tup [sy [37,38],.c (.lit (.bool true))]),gs (t4) [sy [37,38]] (.tup [cS 39,cS 40]),gs (Qan w.im) [cS 40] (rS 41),gs (t5) [sy [32,33],sy [37,38]] (.r (sy [42,43])),gs (t6) [sy [42,43]] (rS 44),gs (t7) [cS 35,cS 40] (rS 45),gs (t8) [cS 44,cS 45] (rS 46),gs (t9) [lc 1,lc 1] (rS 47),gs (t10) [lc 2,lc 1] (rS 48),gs (t11) [cS 46,cS 48] (rS 49),gs (t12) [lc 4,lc 1] (rS 50),gs (t13) [cS 49,cS 50] (rS 51),gs (t14) [cS 47,cS 51] (rS 52),gs (Qbg (wq43 z w) ((wq43_b0 z w b_z b_w hz hw).mn) h0) [cS 52] (.tup [.row (qS 53),lc 0])]
     [bI .leq 3 (.sym 36) (li 0) z.im.num.sign 0 false (cbF hz),bI .leq 3 (.sym 41) (li 0) w.im.num.sign 0 false (cbF hw)] [] ((Qbu (Qdz (Qbv (Qbs (Qbr (Qdy (Qbt (fs99 .nil)))))))):FnsOk Tryz.prog _) 1 3 Tryz.func36 eo36 2000 [lc 1,.row (Qab 0 8),.row (Qab 8 8)] (.tup [.row (qS 53),lc 0])))
   (fun h0=>.ie (fun h=>h0 h) (Qas (L:=[(Qae z).cells,(Qae w).cells,(Qae (⟨0,1⟩:QC)).cells,(Qae (⟨0,0⟩:QC)).cells,cn z,[gr z.re],[gr z.im],[gx (.int .i64 z.im.num.sign)],cn w,[gr w.re],[gr w.im],[gx (.int .i64 w.im.num.sign)],cn (z - w),[gr (nm (z - w))],[gr (z.im*w.im)],[gr ((nm (z - w)) / (z.im*w.im))],[gr (1:Rat)],[gr (2:Rat)],[gr (wq42 z w)],[gr (4:Rat)],[gr ((wq42 z w) / (4:Rat))],[gr (wq43 z w)]].flatten) tys_ok mixed
     [gs (t1) [lc 0,lc 1] (.r (.row (Qab 16 8))),gs (t2) [lc 0,lc 0] (.r (.row (Qab 24 8))),gs (Qbm z b_z) [.row (Qab 0 8)] (.tup [sy [32,33],.c (.lit (.bool true))]),gs (t3) [sy [32,33]] (.tup [cS 34,cS 35]),gs (Qan z.im) [cS 35] (rS 36),gs (Qbm w b_w) [.row (Qab 8 8)] (.tup [sy [37,38],.c (.lit (.bool true))]),gs (t4) [sy [37,38]] (.tup [cS 39,cS 40]),gs (Qan w.im) [cS 40] (rS 41),gs (t5) [sy [32,33],sy [37,38]] (.r (sy [42,43])),gs (t6) [sy [42,43]] (rS 44),gs (t7) [cS 35,cS 40] (rS 45),gs (t8) [cS 44,cS 45] (rS 46),gs (t9) [lc 1,lc 1] (rS 47),gs (t10) [lc 2,lc 1] (rS 48),gs (t11) [cS 46,cS 48] (rS 49),gs (t12) [lc 4,lc 1] (rS 50),gs (t13) [cS 49,cS 50] (rS 51),gs (t14) [cS 47,cS 51] (rS 52),gs (Qci (wq43 z w) ((wq43_b0 z w b_z b_w hz hw).mn) h0) [cS 52] (.tup [.row (zFA),lc 4])]
     [bI .leq 3 (.sym 36) (li 0) z.im.num.sign 0 false (cbF hz),bI .leq 3 (.sym 41) (li 0) w.im.num.sign 0 false (cbF hw)] [] ((Qbu (Qdz (Qbv (Qbs (Qbr (Qdy (Qbt (fs99 .nil)))))))):FnsOk Tryz.prog _) 1 3 Tryz.func36 eo36 2000 [lc 1,.row (Qab 0 8),.row (Qab 8 8)] (.tup [.row (zFA),lc 4])))
theorem pFar1_q0(z w:QC)(hz:¬(z.im.num.sign≤0))(hw:¬(w.im.num.sign≤0)):wq43 z w=far1 z w:=by
 have h_:=pne (mpos (Qbl hz) (Qbl hw))
 simp only[wq43,wq42,far1]<;>grind
theorem pFar1'(z w:QC)(b_z:Qaf z)(b_w:Qaf w)(hz:¬(z.im.num.sign≤0))(hw:¬(w.im.num.sign≤0)):Qah Tryz.prog true 36 [.c (gl (.int .i64 1)),.row ((Qae z).cells),.row ((Qae w).cells)] (if Qam (far1 z w) then .tup [.row (rF (far1 z w)),.c (gl (.int .i64 0))] else .tup [.row (zFG),.c (gl (.int .i64 4))]):=by
 have k_:=pFar1 z w b_z b_w hz hw
 simp only[pFar1_q0 z w hz hw] at k_
 exact k_
def wq44(z w:QC):Rat:=((1:Rat) - (nm z))*((1:Rat) - (nm w))
theorem wq44_b0(z w:QC){k:Nat}(b_z:ZL z k)(b_w:ZL w k):RL (wq44 z w) (8*k+8):=(RL_mul (RL_sub (rj 1) (Qal b_z)) (RL_sub (rj 1) (Qal b_w))).mn
def wq45(z w:QC):Rat:=((nm (z - w))+(nm (z - w))) / (wq44 z w)
theorem wq45_b0(z w:QC){k:Nat}(b_z:ZL z k)(b_w:ZL w k)(hz:¬((((1:Rat) - (nm z)).num.sign)≤0))(hw:¬((((1:Rat) - (nm w)).num.sign)≤0)):RL (wq45 z w) (24*k+19):=(RL_dvd (pne (mpos (Qbl hz) (Qbl hw))) (RL_add (Qal (Qch b_z b_w)) (Qal (Qch b_z b_w))) (wq44_b0 z w b_z b_w)).mn
theorem dFar2(z w:QC)(b_z:ZL z 1024)(b_w:ZL w 1024)(hz:¬((((1:Rat) - (nm z)).num.sign)≤0))(hw:¬((((1:Rat) - (nm w)).num.sign)≤0)):Qah Tryz.prog true 43 [.c (gl (.int .i64 2)),.row (rG z),.row (rG w)] (.r (.row (rF ((1:Rat)+(wq45 z w))))) :=
  Qas (L := [cG z,cG w,cG (z - w),cF (nm (z - w)),cF (1 : Rat),cF (nm z),cF ((1 : Rat) - (nm z)),cF (nm w),cF ((1 : Rat) - (nm w)),cF (wq44 z w),cF ((nm (z - w)) + (nm (z - w))),cF (wq45 z w),cF ((1 : Rat) + (wq45 z w))].flatten) tys_ok mixed
     [gs (rMinus z w b_z.mn b_w.mn) [.row (gR 0),.row (gR 6)] (.r (.row (gR 12))),gs (Qcp (z - w) ((Qch b_z b_w).mn)) [.row (gR 12)] (rQ 18),gs (Qcl 1 (by decide) (by decide)) [lc 1] (rQ 21),gs (Qcp z b_z.mn) [.row (gR 0)] (rQ 24),gs (Qaw (1:Rat) (nm z) (ri 1) ((Qal b_z).mn)) [.row (qS 21),.row (qS 24)] (rQ 27),gs (Qcp w b_w.mn) [.row (gR 6)] (rQ 30),gs (Qaw (1:Rat) (nm w) (ri 1) ((Qal b_w).mn)) [.row (qS 21),.row (qS 30)] (rQ 33),gs (Qai ((1:Rat) - (nm z)) ((1:Rat) - (nm w)) ((RL_sub (rj 1) (Qal b_z)).mn) ((RL_sub (rj 1) (Qal b_w)).mn)) [.row (qS 27),.row (qS 33)] (rQ 36),gs (Qbi (nm (z - w)) (nm (z - w)) ((Qal (Qch b_z b_w)).mn) ((Qal (Qch b_z b_w)).mn)) [.row (qS 18),.row (qS 18)] (rQ 39),gs (Qcg ((nm (z - w))+(nm (z - w))) (wq44 z w) ((RL_add (Qal (Qch b_z b_w)) (Qal (Qch b_z b_w))).mn) ((wq44_b0 z w b_z b_w).mn) (pne (mpos (Qbl hz) (Qbl hw)))) [.row (qS 39),.row (qS 36)] (rQ 42),gs (Qbi (1:Rat) (wq45 z w) (ri 1) ((wq45_b0 z w b_z b_w hz hw).mn)) [.row (qS 21),.row (qS 42)] (rQ 45)]
     [] [] ((Qcv (Qcn .nil)):FnsOk Tryz.prog _) 1 2 Tryz.func43 eo43 2000 [lc 2,.row (gR 0),.row (gR 6)] (rQ 45)
theorem dFar2_q0(z w:QC) :(1:Rat)+(wq45 z w)=far2 z w:=by
 simp only[wq45,wq44,far2]<;>grind
theorem dFar2'(z w:QC)(b_z:ZL z 1024)(b_w:ZL w 1024)(hz:¬((((1:Rat) - (nm z)).num.sign)≤0))(hw:¬((((1:Rat) - (nm w)).num.sign)≤0)):Qah Tryz.prog true 43 [.c (gl (.int .i64 2)),.row (rG z),.row (rG w)] (.r (.row (rF (far2 z w)))):=by
 have k_:=dFar2 z w b_z b_w hz hw
 simp only[dFar2_q0 z w ] at k_
 exact k_
theorem wq44_b1(z w:QC)(b_z:Qaf z)(b_w:Qaf w):RL (wq44 z w) 16390:=(Qac ((1:Rat) - (nm z)) ((1:Rat) - (nm w)) (Qaj (1:Rat) (nm z) (ri 1) (Qal (Qaa b_z))) (Qaj (1:Rat) (nm w) (ri 1) (Qal (Qaa b_w)))).mn
def wq46(z w:QC):Rat:=((nm (z - w)) / (wq44 z w))*(2:Rat)
theorem wq46_b0(z w:QC)(b_z:Qaf z)(b_w:Qaf w)(hz:¬((((1:Rat) - (nm z)).num.sign)≤0))(hw:¬((((1:Rat) - (nm w)).num.sign)≤0)):RL (wq46 z w) 49174:=(Qac ((nm (z - w)) / (wq44 z w)) (2:Rat) (Qeb (pne (mpos (Qbl hz) (Qbl hw))) (Qal (Qch (Qaa b_z) (Qaa b_w))) (wq44_b1 z w b_z b_w)) (ri 2)).mn
def wq47(z w:QC):Rat:=(1:Rat)+((wq46 z w) / (1:Rat))
theorem wq47_b0(z w:QC)(b_z:Qaf z)(b_w:Qaf w)(hz:¬((((1:Rat) - (nm z)).num.sign)≤0))(hw:¬((((1:Rat) - (nm w)).num.sign)≤0)):RL (wq47 z w) 98353:=(Qcz (1:Rat) ((wq46 z w) / (1:Rat)) (ri 1) (Qeb (by decide +kernel) (wq46_b0 z w b_z b_w hz hw) (rj 1))).mn
theorem pFar2(z w:QC)(b_z:Qaf z)(b_w:Qaf w)(hz:¬((((1:Rat) - (nm z)).num.sign)≤0))(hw:¬((((1:Rat) - (nm w)).num.sign)≤0)):Qah Tryz.prog true 36 [.c (gl (.int .i64 2)),.row ((Qae z).cells),.row ((Qae w).cells)] (if Qam (wq47 z w) then .tup [.row (rF (wq47 z w)),.c (gl (.int .i64 0))] else .tup [.row (zFG),.c (gl (.int .i64 4))]) :=
  have t1:=pGInt 0 1 (by decide) (by decide) (by decide) (by decide)
  have t2:=pGInt 0 0 (by decide) (by decide) (by decide) (by decide)
  have t3:=Qbb 1 1 (by decide) (by decide) (by decide) (by decide) (by decide)
  have t4:=Qbn z ((Qaa b_z).mn)
  have t5:=Qay (1:Rat) (nm z) (ri 1) ((Qal (Qaa b_z)).mn)
  have t6:=Qan ((1:Rat) - (nm z))
  have t7:=Qbn w ((Qaa b_w).mn)
  have t8:=Qay (1:Rat) (nm w) (ri 1) ((Qal (Qaa b_w)).mn)
  have t9:=Qan ((1:Rat) - (nm w))
  have t10:=pNSub z w (Qaa b_z) (Qaa b_w) (by decide)
  have t11:=Qbn (z - w) ((Qch (Qaa b_z) (Qaa b_w)).mn)
  have t12:=Qao ((1:Rat) - (nm z)) ((1:Rat) - (nm w)) ((Qaj (1:Rat) (nm z) (ri 1) (Qal (Qaa b_z))).mn) ((Qaj (1:Rat) (nm w) (ri 1) (Qal (Qaa b_w))).mn)
  have t13:=Qbe (nm (z - w)) (wq44 z w) ((Qal (Qch (Qaa b_z) (Qaa b_w))).mn) ((wq44_b1 z w b_z b_w).mn) (pne (mpos (Qbl hz) (Qbl hw)))
  have t14:=Qbb 2 1 (by decide) (by decide) (by decide) (by decide) (by decide)
  have t15:=Qao ((nm (z - w)) / (wq44 z w)) (2:Rat) ((Qeb (pne (mpos (Qbl hz) (Qbl hw))) (Qal (Qch (Qaa b_z) (Qaa b_w))) (wq44_b1 z w b_z b_w)).mn) (ri 2)
  have t16:=Qbe (wq46 z w) (1:Rat) ((wq46_b0 z w b_z b_w hz hw).mn) (ri 1) (by decide +kernel)
  have t17:=pl_add (1:Rat) ((wq46 z w) / (1:Rat)) (ri 1) ((Qeb (by decide +kernel) (wq46_b0 z w b_z b_w hz hw) (rj 1)).mn)
  (Classical.em (Qam (wq47 z w))).elim (fun h0 => .it h0 (Qas (L := [(Qae z).cells,(Qae w).cells,(Qae (⟨0,1⟩ : QC)).cells,(Qae (⟨0,0⟩ : QC)).cells,cn z,[gr (1 : Rat)],[gr (nm z)],[gr ((1 : Rat) - (nm z))],[gx (.int .i64 (((1 : Rat) - (nm z)).num.sign))],cn w,[gr (nm w)],[gr ((1 : Rat) - (nm w))],[gx (.int .i64 (((1 : Rat) - (nm w)).num.sign))],cn (z - w),[gr (nm (z - w))],[gr (wq44 z w)],[gr ((nm (z - w)) / (wq44 z w))],[gr (2 : Rat)],[gr (wq46 z w)],[gr ((wq46 z w) / (1 : Rat))],[gr (wq47 z w)],cF (wq47 z w)].flatten) tys_ok mixed
     [gs (t1) [lc 0,lc 1] (.r (.row (Qab 16 8))),gs (t2) [lc 0,lc 0] (.r (.row (Qab 24 8))),gs (Qbm z b_z) [.row (Qab 0 8)] (.tup [sy [32,33],.c (.lit (.bool true))]),gs (t3) [lc 1,lc 1] (rS 34),gs (t4) [sy [32,33]] (rS 35),gs (t5) [cS 34,cS 35] (rS 36),gs (t6) [cS 36] (rS 37),gs (Qbm w b_w) [.row (Qab 8 8)] (.tup [sy [38,39],.c (.lit (.bool true))]),gs (t7) [sy [38,39]] (rS 40),gs (t8) [cS 34,cS 40] (rS 41),gs (t9) [cS 41] (rS 42),gs (t10) [sy [32,33],sy [38,39]] (.r (sy [43,44])),gs (t11) [sy [43,44]] (rS 45),gs (t12) [cS 36,cS 41] (rS 46),gs (t13) [cS 45,cS 46] (rS 47),gs (t14) [lc 2,lc 1] (rS 48),gs (t15) [cS 47,cS 48] (rS 49),gs (t16) [cS 49,cS 34] (rS 50),gs (t17) [cS 34,cS 50] (rS 51),gs (Qbg (wq47 z w) ((wq47_b0 z w b_z b_w hz hw).mn) h0) [cS 51] (.tup [.row (qS 52),lc 0])]
     [bI .leq 3 (.sym 37) (li 0) (((1:Rat) - (nm z)).num.sign) 0 false (cbF hz),bI .leq 3 (.sym 42) (li 0) (((1:Rat) - (nm w)).num.sign) 0 false (cbF hw)] [] ((Qbu (Qdz (Qbv (Qbs (Qbr (Qdy (Qbt (fs99 .nil)))))))):FnsOk Tryz.prog _) 1 3 Tryz.func36 eo36 2000 [lc 2,.row (Qab 0 8),.row (Qab 8 8)] (.tup [.row (qS 52),lc 0])))
   (fun h0=>.ie (fun h=>h0 h) (Qas (L:=[(Qae z).cells,(Qae w).cells,(Qae (⟨0,1⟩:QC)).cells,(Qae (⟨0,0⟩:QC)).cells,cn z,[gr (1:Rat)],[gr (nm z)],[gr ((1:Rat) - (nm z))],[gx (.int .i64 (((1:Rat) - (nm z)).num.sign))],cn w,[gr (nm w)],[gr ((1:Rat) - (nm w))],[gx (.int .i64 (((1:Rat) - (nm w)).num.sign))],cn (z - w),[gr (nm (z - w))],[gr (wq44 z w)],[gr ((nm (z - w)) / (wq44 z w))],[gr (2:Rat)],[gr (wq46 z w)],[gr ((wq46 z w) / (1:Rat))],[gr (wq47 z w)]].flatten) tys_ok mixed
     [gs (t1) [lc 0,lc 1] (.r (.row (Qab 16 8))),gs (t2) [lc 0,lc 0] (.r (.row (Qab 24 8))),gs (Qbm z b_z) [.row (Qab 0 8)] (.tup [sy [32,33],.c (.lit (.bool true))]),gs (t3) [lc 1,lc 1] (rS 34),gs (t4) [sy [32,33]] (rS 35),gs (t5) [cS 34,cS 35] (rS 36),gs (t6) [cS 36] (rS 37),gs (Qbm w b_w) [.row (Qab 8 8)] (.tup [sy [38,39],.c (.lit (.bool true))]),gs (t7) [sy [38,39]] (rS 40),gs (t8) [cS 34,cS 40] (rS 41),gs (t9) [cS 41] (rS 42),gs (t10) [sy [32,33],sy [38,39]] (.r (sy [43,44])),gs (t11) [sy [43,44]] (rS 45),gs (t12) [cS 36,cS 41] (rS 46),gs (t13) [cS 45,cS 46] (rS 47),gs (t14) [lc 2,lc 1] (rS 48),gs (t15) [cS 47,cS 48] (rS 49),gs (t16) [cS 49,cS 34] (rS 50),gs (t17) [cS 34,cS 50] (rS 51),gs (Qci (wq47 z w) ((wq47_b0 z w b_z b_w hz hw).mn) h0) [cS 51] (.tup [.row (zFA),lc 4])]
     [bI .leq 3 (.sym 37) (li 0) (((1:Rat) - (nm z)).num.sign) 0 false (cbF hz),bI .leq 3 (.sym 42) (li 0) (((1:Rat) - (nm w)).num.sign) 0 false (cbF hw)] [] ((Qbu (Qdz (Qbv (Qbs (Qbr (Qdy (Qbt (fs99 .nil)))))))):FnsOk Tryz.prog _) 1 3 Tryz.func36 eo36 2000 [lc 2,.row (Qab 0 8),.row (Qab 8 8)] (.tup [.row (zFA),lc 4])))
theorem pFar2_q0(z w:QC)(hz:¬((((1:Rat) - (nm z)).num.sign)≤0))(hw:¬((((1:Rat) - (nm w)).num.sign)≤0)):wq47 z w=far2 z w:=by
 have h_:=pne (mpos (Qbl hz) (Qbl hw))
 simp only[wq47,wq46,wq44,far2]<;>grind
theorem pFar2'(z w:QC)(b_z:Qaf z)(b_w:Qaf w)(hz:¬((((1:Rat) - (nm z)).num.sign)≤0))(hw:¬((((1:Rat) - (nm w)).num.sign)≤0)):Qah Tryz.prog true 36 [.c (gl (.int .i64 2)),.row ((Qae z).cells),.row ((Qae w).cells)] (if Qam (far2 z w) then .tup [.row (rF (far2 z w)),.c (gl (.int .i64 0))] else .tup [.row (zFG),.c (gl (.int .i64 4))]):=by
 have k_:=pFar2 z w b_z b_w hz hw
 simp only[pFar2_q0 z w hz hw] at k_
 exact k_
end Go.Proofs.YtmimficdpfmfgaaGreat
namespace Go.Proofs.YtmimficdpfmfgaaGreat
open Go.RowKit Tr
def smul(u:QC)(p:QC×QC×QC×QC):QC×QC×QC×QC:=(u*p.1,u*p.2.1,u*p.2.2.1,u*p.2.2.2)
def stp(t:Bool)(a b c d:QC)(p:QC×QC×QC×QC):QC×QC×QC×QC :=
 if t then(a*cj p.1+b*cj p.2.2.1,a*cj p.2.1+b*cj p.2.2.2,c*cj p.1+d*cj p.2.2.1,c*cj p.2.1+d*cj p.2.2.2)
 else(a*p.1+b*p.2.2.1,a*p.2.1+b*p.2.2.2,c*p.1+d*p.2.2.1,c*p.2.1+d*p.2.2.2)
theorem stp_smul(t:Bool)(a b c d u:QC)(p:QC×QC×QC×QC):stp t a b c d (smul u p)=smul (if t then cj u else u) (stp t a b c d p):=by
 obtain⟨p,q,r,s⟩:=p
 cases t
 ·simp only[stp,smul,Bool.false_eq_true,if_false]
  refine Prod.ext ?_ (Prod.ext ?_ (Prod.ext ?_ ?_))<;>apply Qce<;>simp only[qmr,qmi,qar,qai]<;>grind
 ·simp only[stp,smul,if_true,cj]
  refine Prod.ext ?_ (Prod.ext ?_ (Prod.ext ?_ ?_))<;>apply Qce<;>simp only[qmr,qmi,qar,qai]<;>grind
theorem mul_ne{u v:QC}(h:u≠⟨0,0⟩)(k:v≠⟨0,0⟩):u*v≠⟨0,0⟩:=fun e=>(qmul0.1 e).elim h k
def Nf(p:QC×QC×QC×QC):Prop:=p.2.2.1=⟨1,0⟩∨(p.2.2.1=⟨0,0⟩∧p.2.2.2=⟨1,0⟩)
def dq(p:QC×QC×QC×QC):QC:=p.1*p.2.2.2 - p.2.1*p.2.2.1
theorem dq_smul{u:QC}{p:QC×QC×QC×QC}(h:dq (smul u p)≠⟨0,0⟩):dq p≠⟨0,0⟩:=fun e=>h (by
 have:dq (smul u p)=u*u*dq p:=by
  obtain⟨p,q,r,s⟩:=p
  simp only[dq,smul]
  apply Qce<;>simp only[qmr,qmi,qsr,qsi]<;>grind
 rw[this,e]
 exact qmul0.2 (.inr rfl))
theorem dq_cd{p:QC×QC×QC×QC}(h:dq p≠⟨0,0⟩)(hc:p.2.2.1=⟨0,0⟩):p.2.2.2≠⟨0,0⟩:=fun hd=>h (by
 unfold dq
 rw[hc,hd]
 apply Qce<;>simp only[qmr,qmi,qsr,qsi]<;>grind)
abbrev Q4:=QC×QC×QC×QC
def by4(p:Q4):QC:=if p.2.2.1=⟨0,0⟩ then p.2.2.2 else p.2.2.1
def nm4(p:Q4):Q4:=(p.1 / by4 p,p.2.1 / by4 p,p.2.2.1 / by4 p,p.2.2.2 / by4 p)
def ZL4(p:Q4)(k:Nat):Prop:=ZL p.1 k∧ZL p.2.1 k∧ZL p.2.2.1 k∧ZL p.2.2.2 k
def Sh4(p:Q4):Prop:=Qaf p.1∧Qaf p.2.1∧Qaf p.2.2.1∧Qaf p.2.2.2
def mR(p:Q4)(t:Bool):List GF:=cn p.1++cn p.2.1++cn p.2.2.1++cn p.2.2.2++[gl (.bool t)]
def mQ(p:Q4)(t:Bool):List GF:=(Qae p.1).cells++(Qae p.2.1).cells++(Qae p.2.2.1).cells++(Qae p.2.2.2).cells++[gl (.bool t)]
theorem ZL4.mono{p:Q4}{k l:Nat}(h:ZL4 p k)(hk:k≤l):ZL4 p l:=⟨h.1.mono hk,h.2.1.mono hk,h.2.2.1.mono hk,h.2.2.2.mono hk⟩
theorem by4_ne{p:Q4}(h:dq p≠⟨0,0⟩):by4 p≠⟨0,0⟩:=by
 unfold by4
 split
 ·next hc=>exact dq_cd h hc
 ·next hc=>exact hc
theorem by4_zl{p:Q4}{k:Nat}(h:ZL4 p k):ZL (by4 p) k:=by
 unfold by4
 split
 ·exact h.2.2.2
 ·exact h.2.2.1
theorem nm4_zl{p:Q4}{k:Nat}(h:ZL4 p k)(hd:dq p≠⟨0,0⟩):ZL4 (nm4 p) (8*k+2):=by
 have hb:=by4_ne hd
 have hz:=by4_zl h
 exact⟨(Qed hb h.1 hz).mono (by omega),(Qed hb h.2.1 hz).mono (by omega),(Qed hb h.2.2.1 hz).mono (by omega),(Qed hb h.2.2.2 hz).mono (by omega)⟩
theorem stp_zl{t:Bool}{a b c d:QC}{p:Q4}{k l:Nat}(h:ZL4 (a,b,c,d) k)(hp:ZL4 p l):ZL4 (stp t a b c d p) (4*k+4*l+3):=by
 obtain⟨h1,h2,h3,h4⟩:=h
 obtain⟨p1,p2,p3,p4⟩:=hp
 cases t
 ·exact⟨(Qbc (Qag h1 p1) (Qag h2 p3)).mono (by omega),(Qbc (Qag h1 p2) (Qag h2 p4)).mono (by omega),(Qbc (Qag h3 p1) (Qag h4 p3)).mono (by omega),(Qbc (Qag h3 p2) (Qag h4 p4)).mono (by omega)⟩
 ·exact⟨(Qbc (Qag h1 (Qap p1)) (Qag h2 (Qap p3))).mono (by omega),(Qbc (Qag h1 (Qap p2)) (Qag h2 (Qap p4))).mono (by omega),(Qbc (Qag h3 (Qap p1)) (Qag h4 (Qap p3))).mono (by omega),(Qbc (Qag h3 (Qap p2)) (Qag h4 (Qap p4))).mono (by omega)⟩
theorem qdm{x y:QC}(h:y≠⟨0,0⟩):y*(x / y)=x:=by
 have hn:=qc_nz h
 have hi:=Rat.mul_inv_cancel _ hn
 have e1:(x / y).re=(x.re*y.re - x.im*(-y.im))*(y.re*y.re+y.im*y.im)⁻¹:=rfl
 have e2:(x / y).im=(x.re*(-y.im)+x.im*y.re)*(y.re*y.re+y.im*y.im)⁻¹:=rfl
 generalize (y.re*y.re+y.im*y.im)⁻¹=i at *
 apply Qce
 ·rw[qmr,e1,e2]; grind
 ·rw[qmi,e1,e2]; grind
theorem qd_self{y:QC}(h:y≠⟨0,0⟩):y / y=⟨1,0⟩:=by
 have k:y*(y / y - ⟨1,0⟩)=⟨0,0⟩:=by
  have e:=qdm (x:=y) h
  have e1:=congrArg QC.re e
  have e2:=congrArg QC.im e
  simp only[qmr,qmi] at e1 e2
  apply Qce<;>simp only[qmr,qmi,qsr,qsi]<;>grind
 exact qc_sub0.1 ((qmul0.1 k).elim (fun k=>absurd k h) id)
theorem qd_zero{y:QC}(h:y≠⟨0,0⟩):(⟨0,0⟩:QC) / y=⟨0,0⟩:=(qmul0.1 (qdm (x:=⟨0,0⟩) h)).elim (fun k=>absurd k h) id
theorem qd_one(x:QC):x / ⟨1,0⟩=x:=by
 have h:=qdm (x:=x) (y:=⟨1,0⟩) (by decide)
 have e1:=congrArg QC.re h
 have e2:=congrArg QC.im h
 simp only[qmr,qmi] at e1 e2
 apply Qce<;>grind
theorem nm4_smul{p:Q4}(h:dq p≠⟨0,0⟩):p=smul (by4 p) (nm4 p):=by
 have hb:=by4_ne h
 obtain⟨a,b,c,d⟩:=p
 simp only[smul,nm4,qdm hb]
theorem nm4_nf{p:Q4}(h:dq p≠⟨0,0⟩):Nf (nm4 p):=by
 have hb:=by4_ne h
 by_cases hc:p.2.2.1=⟨0,0⟩
 ·have e:by4 p=p.2.2.2:=if_pos hc
  refine .inr ⟨?_,?_⟩
  ·show p.2.2.1 / by4 p=_
   rw[hc]; exact qd_zero hb
  ·show p.2.2.2 / by4 p=_
   rw[e] at hb ⊢; exact qd_self hb
 ·have e:by4 p=p.2.2.1:=if_neg hc
  refine .inl ?_
  show p.2.2.1 / by4 p=_
  rw[e] at hb ⊢; exact qd_self hb
theorem nm4_id{p:Q4}(h:Nf p):nm4 p=p:=by
 have e:by4 p=⟨1,0⟩:=by
  rcases h with h|⟨h1,h2⟩
  ·unfold by4; rw[h,if_neg (by decide)]
  ·unfold by4; rw[if_pos h1,h2]
 unfold nm4
 simp only[e,qd_one]
theorem eBeh(t u:Bool)(a b c d:QC)(p:Q4)(hm:ZL4 (a,b,c,d) 200000000)(hp:ZL4 p 200000000)(hd:dq (stp t a b c d p)≠⟨0,0⟩):Qah Tryz.prog true 124 [.row (mR (a,b,c,d) t),.row (mR p u)] (.r (.row (mR (nm4 (stp t a b c d p)) (t != u)))):=by
 obtain⟨m1,m2,m3,m4⟩:=hm
 obtain⟨p1,p2,p3,p4⟩:=hp
 obtain⟨a2,b2,c2,d2⟩:=p
 by_cases hc:(stp t a b c d (a2,b2,c2,d2)).2.2.1=⟨0,0⟩
 ·have e:by4 (stp t a b c d (a2,b2,c2,d2))=(stp t a b c d (a2,b2,c2,d2)).2.2.2:=if_pos hc
  have k:=dq_cd hd hc
  unfold nm4
  rw[e]
  cases t<;>cases u
  ·exact eBeh0ff a b c d a2 b2 c2 d2 m1 m2 m3 m4 p1 p2 p3 p4 hc k
  ·exact eBeh0ft a b c d a2 b2 c2 d2 m1 m2 m3 m4 p1 p2 p3 p4 hc k
  ·exact eBeh0tf a b c d a2 b2 c2 d2 m1 m2 m3 m4 p1 p2 p3 p4 hc k
  ·exact eBeh0tt a b c d a2 b2 c2 d2 m1 m2 m3 m4 p1 p2 p3 p4 hc k
 ·have e:by4 (stp t a b c d (a2,b2,c2,d2))=(stp t a b c d (a2,b2,c2,d2)).2.2.1:=if_neg hc
  unfold nm4
  rw[e]
  cases t<;>cases u
  ·exact eBehCff a b c d a2 b2 c2 d2 m1 m2 m3 m4 p1 p2 p3 p4 hc
  ·exact eBehCft a b c d a2 b2 c2 d2 m1 m2 m3 m4 p1 p2 p3 p4 hc
  ·exact eBehCtf a b c d a2 b2 c2 d2 m1 m2 m3 m4 p1 p2 p3 p4 hc
  ·exact eBehCtt a b c d a2 b2 c2 d2 m1 m2 m3 m4 p1 p2 p3 p4 hc
open Classical in
theorem eTold(t:Bool)(p:Q4)(hm:ZL4 p 200000000)(hd:dq p≠⟨0,0⟩):Qah Tryz.prog true 125 [.row (mR p t)] (if Sh4 (nm4 p) then .tup [.row (mQ (nm4 p) t),.c (gl (.int .i64 0))] else .tup [.row (zGG++zGG++zGG++zGG++[gl (.bool false)]),.c (gl (.int .i64 4))]):=by
 obtain⟨m1,m2,m3,m4⟩:=hm
 obtain⟨a,b,c,d⟩:=p
 by_cases hc:c=⟨0,0⟩
 ·have e:by4 (a,b,c,d)=d:=if_pos hc
  have k:=dq_cd hd hc
  unfold nm4 Sh4 mQ mR
  simp only[e]
  cases t
  ·exact eTold0f a b c d m1 m2 m3 m4 hc k
  ·exact eTold0t a b c d m1 m2 m3 m4 hc k
 ·have e:by4 (a,b,c,d)=c:=if_neg hc
  unfold nm4 Sh4 mQ mR
  simp only[e]
  cases t
  ·exact eToldCf a b c d m1 m2 m3 m4 hc
  ·exact eToldCt a b c d m1 m2 m3 m4 hc
def IsW(L W:Nat)(z:QC):Prop:=∃ x y:Int,z.re*(L:Int)=(x:Int)∧z.im*(L:Int)=(y:Int)∧x.natAbs≤W∧y.natAbs≤W
theorem IsW.mul{L W L' W':Nat}{z w:QC}(h:IsW L W z)(k:IsW L' W' w):IsW (L*L') (2*(W*W')) (z*w):=by
 obtain⟨x,y,h1,h2,h3,h4⟩:=h
 obtain⟨u,v,k1,k2,k3,k4⟩:=k
 refine⟨x*u - y*v,x*v+y*u,?_,?_,?_,?_⟩
 ·rw[Int.natCast_mul,Rat.intCast_mul,Rat.intCast_sub,Rat.intCast_mul,Rat.intCast_mul,←h1,←h2,←k1,←k2,qmr]; grind
 ·rw[Int.natCast_mul,Rat.intCast_mul,Rat.intCast_add,Rat.intCast_mul,Rat.intCast_mul,←h1,←h2,←k1,←k2,qmi]; grind
 ·have e1:=Nat.mul_le_mul h3 k3
  have e2:=Nat.mul_le_mul h4 k4
  rw[←Int.natAbs_mul] at e1 e2
  have:=Int.natAbs_sub_le (x*u) (y*v)
  omega
 ·have e1:=Nat.mul_le_mul h3 k4
  have e2:=Nat.mul_le_mul h4 k3
  rw[←Int.natAbs_mul] at e1 e2
  have:=Int.natAbs_add_le (x*v) (y*u)
  omega
theorem IsW.add{L W W':Nat}{z w:QC}(h:IsW L W z)(k:IsW L W' w):IsW L (W+W') (z+w):=by
 obtain⟨x,y,h1,h2,h3,h4⟩:=h
 obtain⟨u,v,k1,k2,k3,k4⟩:=k
 refine⟨x+u,y+v,?_,?_,?_,?_⟩
 ·rw[Rat.intCast_add,←h1,←k1,qar]; grind
 ·rw[Rat.intCast_add,←h2,←k2,qai]; grind
 ·have:=Int.natAbs_add_le x u; omega
 ·have:=Int.natAbs_add_le y v; omega
theorem IsW.cj{L W:Nat}{z:QC}(h:IsW L W z):IsW L W (cj z):=by
 obtain⟨x,y,h1,h2,h3,h4⟩:=h
 refine⟨x,-y,h1,?_,h3,by omega⟩
 rw[Rat.intCast_neg,←h2]; show -z.im*_=_; grind
def W4(L W:Nat)(p:QC×QC×QC×QC):Prop:=IsW L W p.1∧IsW L W p.2.1∧IsW L W p.2.2.1∧IsW L W p.2.2.2
theorem IsW_of{z:QC}{L B D:Nat}(hr:z.re.den ∣ L)(hi:z.im.den ∣ L)(hL:L≤D)(h1:z.re.num.natAbs≤B)(h2:z.im.num.natAbs≤B):IsW L (B*D) z:=by
 obtain⟨u,hu⟩:=hr
 obtain⟨v,hv⟩:=hi
 refine⟨z.re.num*u,z.im.num*v,?_,?_,?_,?_⟩
 ·rw[hu,Int.natCast_mul,Rat.intCast_mul,Rat.intCast_mul,←num_den z.re]; grind
 ·rw[hv,Int.natCast_mul,Rat.intCast_mul,Rat.intCast_mul,←num_den z.im]; grind
 ·rw[Int.natAbs_mul]
  refine Nat.mul_le_mul h1 ?_
  have:=z.re.den_nz
  rw[Int.natAbs_natCast]
  exact Nat.le_trans (Nat.le_mul_of_pos_left u (Nat.pos_of_ne_zero z.re.den_nz)) (by rw[←hu]; exact hL)
 ·rw[Int.natAbs_mul]
  refine Nat.mul_le_mul h2 ?_
  have:=z.im.den_nz
  rw[Int.natAbs_natCast]
  exact Nat.le_trans (Nat.le_mul_of_pos_left v (Nat.pos_of_ne_zero z.im.den_nz)) (by rw[←hv]; exact hL)
theorem wl_m{m n j k:Nat}(h:(words m).length≤j)(g:(words n).length≤k):(words (m*n)).length≤j+k:=wl_mul h g
theorem dvd8(a b c d e f g h:Nat):a ∣ a*(b*(c*(d*(e*(f*(g*h))))))∧b ∣ a*(b*(c*(d*(e*(f*(g*h))))))∧c ∣ a*(b*(c*(d*(e*(f*(g*h))))))∧d ∣ a*(b*(c*(d*(e*(f*(g*h))))))∧e ∣ a*(b*(c*(d*(e*(f*(g*h))))))∧f ∣ a*(b*(c*(d*(e*(f*(g*h))))))∧g ∣ a*(b*(c*(d*(e*(f*(g*h))))))∧h ∣ a*(b*(c*(d*(e*(f*(g*h)))))):=by
 have l:∀{x y z:Nat},x ∣ y→x ∣ z*y:=fun h=>Nat.dvd_trans h (Nat.dvd_mul_left _ _)
 have o:∀ x y:Nat,x ∣ x*y:=fun x y=>Nat.dvd_mul_right x y
 exact⟨o _ _,l (o _ _),l (l (o _ _)),l (l (l (o _ _))),l (l (l (l (o _ _)))),l (l (l (l (l (o _ _))))),l (l (l (l (l (l (o _ _)))))),l (l (l (l (l (l (l (Nat.dvd_refl _)))))))⟩
theorem big_of(k:Nat):∃ B,(words B).length≤k+1∧∀ n,(words n).length≤k→n≤B :=
 ⟨4294967296 ^ k,words_length_le (Nat.pow_lt_pow_right (by decide) (by omega)),fun n h=>Nat.le_of_lt (Nat.lt_of_lt_of_le (lt_words n) (Nat.pow_le_pow_right (by decide) h))⟩
def q1:Q4:=(⟨1,0⟩,⟨0,0⟩,⟨0,0⟩,⟨1,0⟩)
def mul4(x y:Q4):Q4:=stp false x.1 x.2.1 x.2.2.1 x.2.2.2 y
def adj4(b:Q4):Q4:=(b.2.2.2,⟨0,0⟩ - b.2.1,⟨0,0⟩ - b.2.2.1,b.1)
theorem qcan{u x y:QC}(hu:u≠⟨0,0⟩)(h:u*x=u*y):x=y:=by
 have k:u*(x - y)=⟨0,0⟩:=by
  have h1:=congrArg QC.re h
  have h2:=congrArg QC.im h
  simp only[qmr,qmi] at h1 h2
  apply Qce<;>simp only[qmr,qmi,qsr,qsi]<;>grind
 exact qc_sub0.1 ((qmul0.1 k).elim (fun k=>absurd k hu) id)
theorem qass(x y z:QC):x*y*z=x*(y*z):=by apply Qce<;>simp only[qmr,qmi]<;>grind
theorem q4_ext{p q:Q4}(h1:p.1=q.1)(h2:p.2.1=q.2.1)(h3:p.2.2.1=q.2.2.1)(h4:p.2.2.2=q.2.2.2):p=q:=Prod.ext h1 (Prod.ext h2 (Prod.ext h3 h4))
theorem mul4_sr(u:QC)(x y:Q4):mul4 x (smul u y)=smul u (mul4 x y):=stp_smul false _ _ _ _ u y
theorem dq_mul(x y:Q4):dq (mul4 x y)=dq x*dq y:=by
 obtain⟨a,b,c,d⟩:=x
 obtain⟨e,f,g,h⟩:=y
 simp only[mul4,dq,stp,Bool.false_eq_true,if_false]
 apply Qce<;>simp only[qmr,qmi,qar,qai,qsr,qsi]<;>grind
theorem dq_adj(b:Q4):dq (adj4 b)=dq b:=by
 obtain⟨a,b,c,d⟩:=b
 simp only[adj4,dq]
 apply Qce<;>simp only[qmr,qmi,qsr,qsi]<;>grind
theorem qd_common{u x y:QC}(hu:u≠⟨0,0⟩)(hy:y≠⟨0,0⟩):(u*x) / (u*y)=x / y:=by
 have huy:u*y≠⟨0,0⟩:=mul_ne hu hy
 refine qcan huy ?_
 rw[qdm huy,qass,qdm hy]
theorem by4_sm{u:QC}(hu:u≠⟨0,0⟩)(p:Q4):by4 (smul u p)=u*by4 p:=by
 unfold by4
 by_cases h:p.2.2.1=⟨0,0⟩
 ·rw[if_pos h,if_pos (show(smul u p).2.2.1=_ from qmul0.2 (.inr h))]; rfl
 ·rw[if_neg h,if_neg (show ¬(smul u p).2.2.1=_ from fun e=>(qmul0.1 e).elim hu h)]; rfl
theorem nm4_sm{u:QC}(hu:u≠⟨0,0⟩){p:Q4}(hp:dq p≠⟨0,0⟩):nm4 (smul u p)=nm4 p:=by
 have hb:=by4_ne hp
 unfold nm4
 rw[by4_sm hu]
 apply q4_ext<;>exact qd_common hu hb
def inv4(b:Q4):Q4:=nm4 (adj4 b)
def W1(b m:Q4):Q4:=mul4 m (adj4 b)
def W2(b m:Q4):Q4:=mul4 b (W1 b m)
section
variable{b m:Q4}(hb:dq b≠⟨0,0⟩)(hm:dq m≠⟨0,0⟩)
theorem adj_ne(hb:dq b≠⟨0,0⟩):dq (adj4 b)≠⟨0,0⟩:=by rw[dq_adj]; exact hb
end
theorem W4_ofk{a b c d:QC}{k:Nat}(ha:ZL a k)(hb:ZL b k)(hc:ZL c k)(hd:ZL d k):∃ L W,L≠0∧(words L).length≤8*k∧(words W).length≤9*k+1∧W4 L W (a,b,c,d):=by
 obtain⟨L,hL⟩:∃ L,L=a.re.den*(a.im.den*(b.re.den*(b.im.den*(c.re.den*(c.im.den*(d.re.den*d.im.den)))))):=⟨_,rfl⟩
 obtain⟨d1,d2,d3,d4,d5,d6,d7,d8⟩:=dvd8 a.re.den a.im.den b.re.den b.im.den c.re.den c.im.den d.re.den d.im.den
 rw[←hL] at d1 d2 d3 d4 d5 d6 d7 d8
 have hl:(words L).length≤8*k:=by
  rw[hL]
  exact Nat.le_trans (wl_m ha.1.2 (wl_m ha.2.2 (wl_m hb.1.2 (wl_m hb.2.2 (wl_m hc.1.2 (wl_m hc.2.2 (wl_m hd.1.2 hd.2.2))))))) (by omega)
 have h0:L≠0:=by
  have:=a.re.den_nz; have:=a.im.den_nz; have:=b.re.den_nz; have:=b.im.den_nz; have:=c.re.den_nz; have:=c.im.den_nz; have:=d.re.den_nz; have:=d.im.den_nz
  rw[hL]
  simp only[Nat.mul_ne_zero_iff]
  exact⟨by assumption,by assumption,by assumption,by assumption,by assumption,by assumption,by assumption,by assumption⟩
 obtain⟨B,hB1,hB2⟩:=big_of k
 have hB:∀{q:Rat},RL q k→q.num.natAbs≤B:=fun h=>hB2 _ h.1
 refine⟨L,B*L,h0,hl,Nat.le_trans (wl_m hB1 hl) (by omega),?_⟩
 exact⟨IsW_of d1 d2 (Nat.le_refl _) (hB ha.1) (hB ha.2),IsW_of d3 d4 (Nat.le_refl _) (hB hb.1) (hB hb.2),IsW_of d5 d6 (Nat.le_refl _) (hB hc.1) (hB hc.2),IsW_of d7 d8 (Nat.le_refl _) (hB hd.1) (hB hd.2)⟩
theorem IsW.sub{L W W':Nat}{z w:QC}(h:IsW L W z)(k:IsW L W' w):IsW L (W+W') (z - w):=by
 obtain⟨x,y,h1,h2,h3,h4⟩:=h
 obtain⟨u,v,k1,k2,k3,k4⟩:=k
 refine⟨x - u,y - v,?_,?_,?_,?_⟩
 ·rw[Rat.intCast_sub,←h1,←k1,qsr]; grind
 ·rw[Rat.intCast_sub,←h2,←k2,qsi]; grind
 ·have:=Int.natAbs_sub_le x u; omega
 ·have:=Int.natAbs_sub_le y v; omega
theorem IsW.mono{L W W':Nat}{z:QC}(h:IsW L W z)(k:W≤W'):IsW L W' z:=by
 obtain⟨x,y,h1,h2,h3,h4⟩:=h
 exact⟨x,y,h1,h2,by omega,by omega⟩
end Go.Proofs.YtmimficdpfmfgaaGreat
namespace Go.Proofs.YtmimficdpfmfgaaGreat
open Go.RowKit Tr
theorem ZL4.w{p:Q4}{k:Nat}(h:ZL4 p k):∃ L W,L≠0∧(words L).length≤8*k∧(words W).length≤9*k+1∧W4 L W p:=by
 obtain⟨a,b,c,d⟩:=p
 exact W4_ofk h.1 h.2.1 h.2.2.1 h.2.2.2
end Go.Proofs.YtmimficdpfmfgaaGreat
