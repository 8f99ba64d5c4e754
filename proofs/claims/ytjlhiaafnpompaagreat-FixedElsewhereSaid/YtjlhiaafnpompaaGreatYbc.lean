/- Laws for the walk. -/
import Derived.Test.YtjlhiaafnpompaaGreatYbb
set_option linter.unusedVariables false
set_option maxHeartbeats 4000000
namespace Go.Proofs.YtjlhiaafnpompaaGreat
open Go.RowKit Tr
def q1:Q4:=(⟨1,0⟩,⟨0,0⟩,⟨0,0⟩,⟨1,0⟩)
def mul4(x y:Q4):Q4:=stp false x.1 x.2.1 x.2.2.1 x.2.2.2 y
def adj4(b:Q4):Q4:=(b.2.2.2,⟨0,0⟩ - b.2.1,⟨0,0⟩ - b.2.2.1,b.1)
def tr4(p:Q4):QC:=p.1+p.2.2.2
theorem qcan{u x y:QC}(hu:u≠⟨0,0⟩)(h:u*x=u*y):x=y:=by
 have k:u*(x - y)=⟨0,0⟩:=by
  have h1:=congrArg QC.re h
  have h2:=congrArg QC.im h
  simp only[qmr,qmi] at h1 h2
  apply qc_ext<;>simp only[qmr,qmi,qsr,qsi]<;>grind
 exact qc_sub0.1 ((qmul0.1 k).elim (fun k=>absurd k hu) id)
theorem qcom(x y:QC):x*y=y*x:=by apply qc_ext<;>simp only[qmr,qmi]<;>grind
theorem qass(x y z:QC):x*y*z=x*(y*z):=by apply qc_ext<;>simp only[qmr,qmi]<;>grind
theorem q4_ext{p q:Q4}(h1:p.1=q.1)(h2:p.2.1=q.2.1)(h3:p.2.2.1=q.2.2.1)(h4:p.2.2.2=q.2.2.2):p=q:=Prod.ext h1 (Prod.ext h2 (Prod.ext h3 h4))
theorem mul4_assoc(x y z:Q4):mul4 (mul4 x y) z=mul4 x (mul4 y z):=by
 obtain⟨a,b,c,d⟩:=x
 obtain⟨e,f,g,h⟩:=y
 obtain⟨i,j,k,l⟩:=z
 apply q4_ext<;>simp only[mul4,stp,Bool.false_eq_true,if_false]<;>apply qc_ext<;>simp only[qmr,qmi,qar,qai]<;>grind
theorem mul4_sr(u:QC)(x y:Q4):mul4 x (smul u y)=smul u (mul4 x y):=stp_smul false _ _ _ _ u y
theorem mul4_sl(u:QC)(x y:Q4):mul4 (smul u x) y=smul u (mul4 x y):=by
 obtain⟨a,b,c,d⟩:=x
 obtain⟨e,f,g,h⟩:=y
 apply q4_ext<;>simp only[mul4,smul,stp,Bool.false_eq_true,if_false]<;>apply qc_ext<;>simp only[qmr,qmi,qar,qai]<;>grind
theorem mul4_one(x:Q4):mul4 x q1=x:=by
 obtain⟨a,b,c,d⟩:=x
 apply q4_ext<;>simp only[mul4,q1,stp,Bool.false_eq_true,if_false]<;>apply qc_ext<;>simp only[qmr,qmi,qar,qai]<;>grind
theorem one_mul4(x:Q4):mul4 q1 x=x:=by
 obtain⟨a,b,c,d⟩:=x
 apply q4_ext<;>simp only[mul4,q1,stp,Bool.false_eq_true,if_false]<;>apply qc_ext<;>simp only[qmr,qmi,qar,qai]<;>grind
theorem adj_mul(b:Q4):mul4 (adj4 b) b=smul (dq b) q1:=by
 obtain⟨a,b,c,d⟩:=b
 apply q4_ext<;>simp only[mul4,adj4,smul,q1,dq,stp,Bool.false_eq_true,if_false]<;>apply qc_ext<;>simp only[qmr,qmi,qar,qai,qsr,qsi]<;>grind
theorem mul_adj(b:Q4):mul4 b (adj4 b)=smul (dq b) q1:=by
 obtain⟨a,b,c,d⟩:=b
 apply q4_ext<;>simp only[mul4,adj4,smul,q1,dq,stp,Bool.false_eq_true,if_false]<;>apply qc_ext<;>simp only[qmr,qmi,qar,qai,qsr,qsi]<;>grind
theorem dq_mul(x y:Q4):dq (mul4 x y)=dq x*dq y:=by
 obtain⟨a,b,c,d⟩:=x
 obtain⟨e,f,g,h⟩:=y
 simp only[mul4,dq,stp,Bool.false_eq_true,if_false]
 apply qc_ext<;>simp only[qmr,qmi,qar,qai,qsr,qsi]<;>grind
theorem dq_adj(b:Q4):dq (adj4 b)=dq b:=by
 obtain⟨a,b,c,d⟩:=b
 simp only[adj4,dq]
 apply qc_ext<;>simp only[qmr,qmi,qsr,qsi]<;>grind
theorem dq_sm(u:QC)(p:Q4):dq (smul u p)=u*u*dq p:=by
 obtain⟨a,b,c,d⟩:=p
 simp only[smul,dq]
 apply qc_ext<;>simp only[qmr,qmi,qsr,qsi]<;>grind
theorem tr_sm(u:QC)(p:Q4):tr4 (smul u p)=u*tr4 p:=by
 obtain⟨a,b,c,d⟩:=p
 simp only[smul,tr4]
 apply qc_ext<;>simp only[qmr,qmi,qar,qai]<;>grind
theorem tr_com(x y:Q4):tr4 (mul4 x y)=tr4 (mul4 y x):=by
 obtain⟨a,b,c,d⟩:=x
 obtain⟨e,f,g,h⟩:=y
 simp only[mul4,tr4,stp,Bool.false_eq_true,if_false]
 apply qc_ext<;>simp only[qmr,qmi,qar,qai]<;>grind
theorem qd_common{u x y:QC}(hu:u≠⟨0,0⟩)(hy:y≠⟨0,0⟩):(u*x) / (u*y)=x / y:=by
 have huy:u*y≠⟨0,0⟩:=mul_ne hu hy
 refine qcan huy ?_
 rw[qdm huy,qass,qdm hy]
theorem by4_sm{u:QC}(hu:u≠⟨0,0⟩)(p:Q4):by4 (smul u p)=u*by4 p:=by
 unfold by4
 by_cases h:p.2.2.1=⟨0,0⟩
 ·rw[if_pos h,if_pos (show(smul u p).2.2.1=_ from qmul0.2 (.inr h))]; rfl
 ·rw[if_neg h,if_neg (show ¬(smul u p).2.2.1=_ from fun e=>(qmul0.1 e).elim hu h)]; rfl
theorem nm4_sm{u:QC}(hu:u≠⟨0,0⟩){p:Q4}(hp:dq p≠⟨0,0⟩):nm4 (smul u p)=nm4 p:=by
 have hb:=by4_ne hp
 unfold nm4
 rw[by4_sm hu]
 apply q4_ext<;>exact qd_common hu hb
def inv4(b:Q4):Q4:=nm4 (adj4 b)
def els1(b m:Q4):Q4:=nm4 (mul4 m (inv4 b))
def els(b m:Q4):Q4:=nm4 (mul4 b (els1 b m))
def W1(b m:Q4):Q4:=mul4 m (adj4 b)
def W2(b m:Q4):Q4:=mul4 b (W1 b m)
section
variable{b m:Q4}(hb:dq b≠⟨0,0⟩)(hm:dq m≠⟨0,0⟩)
theorem adj_ne(hb:dq b≠⟨0,0⟩):dq (adj4 b)≠⟨0,0⟩:=by rw[dq_adj]; exact hb
theorem W1_ne(hb:dq b≠⟨0,0⟩)(hm:dq m≠⟨0,0⟩):dq (W1 b m)≠⟨0,0⟩:=by unfold W1; rw[dq_mul]; exact mul_ne hm (adj_ne hb)
theorem W2_ne(hb:dq b≠⟨0,0⟩)(hm:dq m≠⟨0,0⟩):dq (W2 b m)≠⟨0,0⟩:=by unfold W2; rw[dq_mul]; exact mul_ne hb (W1_ne hb hm)
theorem inv_eq(hb:dq b≠⟨0,0⟩):adj4 b=smul (by4 (adj4 b)) (inv4 b):=nm4_smul (adj_ne hb)
theorem els1_eq(hb:dq b≠⟨0,0⟩)(hm:dq m≠⟨0,0⟩):els1 b m=nm4 (W1 b m):=by
 have h:W1 b m=smul (by4 (adj4 b)) (mul4 m (inv4 b)):=by
  unfold W1
  rw[←mul4_sr,←inv_eq hb]
 have hd:dq (mul4 m (inv4 b))≠⟨0,0⟩:=fun e=>W1_ne hb hm (by rw[h,dq_sm,e]; exact qmul0.2 (.inr rfl))
 rw[h,nm4_sm (by4_ne (adj_ne hb)) hd]; rfl
theorem els_eq(hb:dq b≠⟨0,0⟩)(hm:dq m≠⟨0,0⟩):els b m=nm4 (W2 b m):=by
 have h:W2 b m=smul (by4 (W1 b m)) (mul4 b (els1 b m)):=by
  unfold W2
  rw[←mul4_sr,els1_eq hb hm,←nm4_smul (W1_ne hb hm)]
 have hd:dq (mul4 b (els1 b m))≠⟨0,0⟩:=fun e=>W2_ne hb hm (by rw[h,dq_sm,e]; exact qmul0.2 (.inr rfl))
 rw[h,nm4_sm (by4_ne (W1_ne hb hm)) hd]; rfl
theorem tr_W2:tr4 (W2 b m)=dq b*tr4 m:=by
 unfold W2 W1
 rw[tr_com,mul4_assoc,adj_mul,mul4_sr,mul4_one,tr_sm]
theorem dq_W2:dq (W2 b m)=dq b*dq b*dq m:=by
 unfold W2 W1
 rw[dq_mul,dq_mul,dq_adj,qcom (dq m),qass]
theorem els_sm(hb:dq b≠⟨0,0⟩)(hm:dq m≠⟨0,0⟩):∃ u,u≠⟨0,0⟩∧W2 b m=smul u (els b m):=⟨_,by4_ne (W2_ne hb hm),by rw[els_eq hb hm]; exact nm4_smul (W2_ne hb hm)⟩
end
def sg4(p:Q4):QC:=(tr4 p*tr4 p) / dq p
theorem sg_sm{u:QC}(hu:u≠⟨0,0⟩){p:Q4}(hp:dq p≠⟨0,0⟩):sg4 (smul u p)=sg4 p:=by
 unfold sg4
 rw[tr_sm,dq_sm]
 have e:(u*tr4 p)*(u*tr4 p)=(u*u)*(tr4 p*tr4 p):=by rw[qass,qass,←qass (tr4 p) u,qcom (tr4 p) u,qass]
 rw[e]
 exact qd_common (mul_ne hu hu) hp
theorem sg_els{b m:Q4}(hb:dq b≠⟨0,0⟩)(hm:dq m≠⟨0,0⟩):sg4 (els b m)=sg4 m:=by
 obtain⟨u,hu,h⟩:=els_sm hb hm
 have hd:dq (els b m)≠⟨0,0⟩:=fun e=>W2_ne hb hm (by rw[h,dq_sm,e]; exact qmul0.2 (.inr rfl))
 rw[←sg_sm hu hd,←h]
 unfold sg4
 rw[tr_W2,dq_W2]
 have e:(dq b*tr4 m)*(dq b*tr4 m)=(dq b*dq b)*(tr4 m*tr4 m):=by rw[qass,qass,←qass (tr4 m),qcom (tr4 m) (dq b),qass]
 rw[e]
 exact qd_common (mul_ne hb hb) hm
theorem scal_iff{p:Q4}:Scal p↔∃ s,p=smul s q1:=by
 obtain⟨a,b,c,d⟩:=p
 constructor
 ·rintro⟨h1,h2,h3⟩
  simp only at h1 h2 h3
  subst h1; subst h2; subst h3
  refine⟨a,?_⟩
  apply q4_ext<;>simp only[smul,q1]<;>apply qc_ext<;>simp only[qmr,qmi]<;>grind
 ·rintro⟨s,h⟩
  rw[h]
  refine⟨?_,?_,rfl⟩<;>exact qmul0.2 (.inr rfl)
theorem smul_inj{u:QC}(hu:u≠⟨0,0⟩){p q:Q4}(h:smul u p=smul u q):p=q:=by
 have h1:=congrArg Prod.fst h
 have h2:=congrArg (fun x:Q4=>x.2.1) h
 have h3:=congrArg (fun x:Q4=>x.2.2.1) h
 have h4:=congrArg (fun x:Q4=>x.2.2.2) h
 exact q4_ext (qcan hu h1) (qcan hu h2) (qcan hu h3) (qcan hu h4)
theorem scal_sm{u:QC}(hu:u≠⟨0,0⟩){p:Q4}:Scal (smul u p)↔Scal p:=by
 rw[scal_iff,scal_iff]
 constructor
 ·rintro⟨s,h⟩
  refine⟨s / u,smul_inj hu ?_⟩
  rw[h,smul_smul,qdm hu]
 ·rintro⟨s,rfl⟩
  exact⟨u*s,by rw[smul_smul]⟩
theorem scal_W2{b m:Q4}(hb:dq b≠⟨0,0⟩):Scal (W2 b m)↔Scal m:=by
 have key:mul4 (adj4 b) (mul4 (W2 b m) b)=smul (dq b*dq b) m:=by
  unfold W2 W1
  rw[mul4_assoc b,mul4_assoc m,adj_mul,mul4_sr,mul4_one,←mul4_assoc (adj4 b),adj_mul,mul4_sl,one_mul4,smul_smul]
 constructor
 ·intro h
  obtain⟨s,hs⟩:=scal_iff.1 h
  rw[hs,mul4_sl,one_mul4,mul4_sr,adj_mul,smul_smul] at key
  exact(scal_sm (mul_ne hb hb)).1 (scal_iff.2 ⟨_,key.symm⟩)
 ·intro h
  obtain⟨s,hs⟩:=scal_iff.1 h
  refine scal_iff.2 ⟨s*dq b,?_⟩
  unfold W2 W1
  rw[hs,mul4_sl,one_mul4,mul4_sr,mul_adj,smul_smul]
theorem scal_els{b m:Q4}(hb:dq b≠⟨0,0⟩)(hm:dq m≠⟨0,0⟩):Scal (els b m)↔Scal m:=by
 obtain⟨u,hu,h⟩:=els_sm hb hm
 have k:=scal_W2 (m:=m) hb
 rw[h,scal_sm hu] at k
 exact k
theorem W4_ofk{a b c d:QC}{k:Nat}(ha:ZL a k)(hb:ZL b k)(hc:ZL c k)(hd:ZL d k):∃ L W,L≠0∧(words L).length≤8*k∧(words W).length≤9*k+1∧W4 L W (a,b,c,d):=by
 obtain⟨L,hL⟩:∃ L,L=a.re.den*(a.im.den*(b.re.den*(b.im.den*(c.re.den*(c.im.den*(d.re.den*d.im.den)))))):=⟨_,rfl⟩
 obtain⟨d1,d2,d3,d4,d5,d6,d7,d8⟩:=dvd8 a.re.den a.im.den b.re.den b.im.den c.re.den c.im.den d.re.den d.im.den
 rw[←hL] at d1 d2 d3 d4 d5 d6 d7 d8
 have hl:(words L).length≤8*k:=by
  rw[hL]
  exact Nat.le_trans (wl_m ha.1.2 (wl_m ha.2.2 (wl_m hb.1.2 (wl_m hb.2.2 (wl_m hc.1.2 (wl_m hc.2.2 (wl_m hd.1.2 hd.2.2))))))) (by omega)
 have h0:L≠0:=by
  have:=a.re.den_nz; have:=a.im.den_nz; have:=b.re.den_nz; have:=b.im.den_nz; have:=c.re.den_nz; have:=c.im.den_nz; have:=d.re.den_nz; have:=d.im.den_nz
  rw[hL]
  simp only[Nat.mul_ne_zero_iff]
  exact⟨by assumption,by assumption,by assumption,by assumption,by assumption,by assumption,by assumption,by assumption⟩
 obtain⟨B,hB1,hB2⟩:=big_of k
 have hB:∀{q:Rat},RL q k→q.num.natAbs≤B:=fun h=>hB2 _ h.1
 refine⟨L,B*L,h0,hl,Nat.le_trans (wl_m hB1 hl) (by omega),?_⟩
 exact⟨IsW_of d1 d2 (Nat.le_refl _) (hB ha.1) (hB ha.2),IsW_of d3 d4 (Nat.le_refl _) (hB hb.1) (hB hb.2),IsW_of d5 d6 (Nat.le_refl _) (hB hc.1) (hB hc.2),IsW_of d7 d8 (Nat.le_refl _) (hB hd.1) (hB hd.2)⟩
theorem IsW.sub{L W W':Nat}{z w:QC}(h:IsW L W z)(k:IsW L W' w):IsW L (W+W') (z - w):=by
 obtain⟨x,y,h1,h2,h3,h4⟩:=h
 obtain⟨u,v,k1,k2,k3,k4⟩:=k
 refine⟨x - u,y - v,?_,?_,?_,?_⟩
 ·rw[Rat.intCast_sub,←h1,←k1,qsr]; grind
 ·rw[Rat.intCast_sub,←h2,←k2,qsi]; grind
 ·have:=Int.natAbs_sub_le x u; omega
 ·have:=Int.natAbs_sub_le y v; omega
theorem IsW.mono{L W W':Nat}{z:QC}(h:IsW L W z)(k:W≤W'):IsW L W' z:=by
 obtain⟨x,y,h1,h2,h3,h4⟩:=h
 exact⟨x,y,h1,h2,by omega,by omega⟩
theorem IsW_0(L W:Nat):IsW L W ⟨0,0⟩:=⟨0,0,by simp,by simp,by simp,by simp⟩
theorem sqn(z:Int):0≤z*z:=by
 rcases Int.le_total 0 z with h|h
 ·exact Int.mul_nonneg h h
 ·exact Int.mul_nonneg_of_nonpos_of_nonpos h h
theorem ratio_zl{L W V n:Nat}{p q:QC}(h:IsW L W p)(k:IsW L V q)(hL:L≠0)(hq:q≠⟨0,0⟩)(hw:(words W).length≤n)(hv:(words V).length≤n):ZL (p / q) (2*n+1):=by
 obtain⟨x,y,h1,h2,h3,h4⟩:=h
 obtain⟨u,v,k1,k2,k3,k4⟩:=k
 have hl:((L:Int):Rat)≠0:=by exact_mod_cast hL
 have hd:=qdm (x:=p) hq
 have d1:=congrArg QC.re hd
 have d2:=congrArg QC.im hd
 simp only[qmr,qmi] at d1 d2
 have huv:u*u+v*v≠0:=by
  intro e
  have hu:u=0:=by
   have:=sqn u; have:=sqn v
   exact(Int.mul_eq_zero.1 (by omega)).elim id id
  have hv:v=0:=by
   have:=sqn u; have:=sqn v
   exact(Int.mul_eq_zero.1 (by omega)).elim id id
  rw[hu] at k1; rw[hv] at k2
  refine hq (qc_ext ?_ ?_)
  ·rcases Rat.mul_eq_zero.1 (k1.trans (by simp)) with h|h
   ·exact h
   ·exact absurd h hl
  ·rcases Rat.mul_eq_zero.1 (k2.trans (by simp)) with h|h
   ·exact h
   ·exact absurd h hl
 have hN:((u*u+v*v:Int):Rat)≠0:=by exact_mod_cast huv
 have e1:(p / q).re*((u*u+v*v:Int):Rat)=((x*u+y*v:Int):Rat):=by
  simp only[Rat.intCast_add,Rat.intCast_mul,←h1,←h2,←k1,←k2]
  rw[←d1,←d2]
  grind
 have e2:(p / q).im*((u*u+v*v:Int):Rat)=((y*u - x*v:Int):Rat):=by
  simp only[Rat.intCast_add,Rat.intCast_sub,Rat.intCast_mul,←h1,←h2,←k1,←k2]
  rw[←d1,←d2]
  grind
 have key:∀(r:Rat) (z:Int),r*((u*u+v*v:Int):Rat)=(z:Rat)→r=Rat.divInt z (u*u+v*v):=fun r z e=>by
  rw[Rat.divInt_eq_div,←e]; grind
 have two:∀ i j:Nat,i≤2*(j*V)→(words j).length≤n→(words i).length≤2*n+1:=fun i j hi hj =>
  Nat.le_trans (wl_mono hi (wl_m (j:=1) (words_length_le (by decide)) (wl_m hj hv))) (by omega)
 have m:∀{i j k l:Int} {a b:Nat},i.natAbs≤a→j.natAbs≤b→k.natAbs≤a→l.natAbs≤b→(i*j).natAbs≤a*b∧(k*l).natAbs≤a*b:=fun hi hj hk hl=>by
  rw[Int.natAbs_mul,Int.natAbs_mul]; exact⟨Nat.mul_le_mul hi hj,Nat.mul_le_mul hk hl⟩
 have hden:(words (u*u+v*v).natAbs).length≤2*n+1:=by
  have:=m k3 k3 k4 k4
  have:=Int.natAbs_add_le (u*u) (v*v)
  exact two _ V (by omega) hv
 refine⟨?_,?_⟩
 ·rw[key _ _ e1]
  refine RL_divInt huv ?_ hden
  have:=m h3 k3 h4 k4
  have:=Int.natAbs_add_le (x*u) (y*v)
  exact two _ W (by omega) hw
 ·rw[key _ _ e2]
  refine RL_divInt huv ?_ hden
  have:=m h4 k3 h3 k4
  have:=Int.natAbs_sub_le (y*u) (x*v)
  exact two _ W (by omega) hw
theorem short_zl{z:QC}(h:ZL z 250):ShortZ z:=by
 have k:∀{n:Nat},(words n).length≤250→n<256 ^ 1024:=fun hn=>Nat.lt_of_lt_of_le (lt_words _) (Nat.le_trans (Nat.pow_le_pow_right (by decide) hn) (by decide +kernel))
 exact short_c ⟨⟨k h.1.1,k h.1.2⟩,k h.2.1,k h.2.2⟩
end Go.Proofs.YtjlhiaafnpompaaGreat
namespace Go.Proofs.YtjlhiaafnpompaaGreat
open Go.RowKit Tr
open Classical
def NC(W:World)(k:Nat):Prop:=∃ o,W.heap[k]?=some o∧o.isCells=false
theorem cell_nc{w:World}{b i:Nat}{v:Value}(h:w.cell? ⟨b,i,none⟩=some v):¬NC w b:=by
 rintro⟨o,ho,hc⟩
 unfold World.cell? at h
 simp only[ho] at h
 cases o<;>simp[Obj.isCells] at h hc
theorem WSlA.clr{A:Nat→Prop}{w:World}{v:Value}{l:List Nat}(h:WSlA A w v l):WSlA (fun k=>A k∨NC w k) w v l:=by
 obtain⟨p,cap,h1,h2,h3⟩:=h
 refine⟨p,cap,h1,h2,fun hne=>?_⟩
 obtain⟨b,off,h4,h5,h6,h7⟩:=h3 hne
 exact⟨b,off,h4,h5,fun k=>k.elim h6 (cell_nc (h7 0 (List.length_pos_iff.2 hne))),h7⟩
theorem IntP.clr{z:Int}{v:Value}{w:World}{A:Nat→Prop}(h:IntP z v w A):IntP z v w (fun k=>A k∨NC w k):=by
 obtain⟨b,o,sl,h1,h2,h3,h4,h5,h6⟩:=h
 exact⟨b,o,sl,h1,h2,fun k=>k.elim h3 (cell_nc h4),h4,h5,h6.clr⟩
theorem RatP.clr{q:Rat}{v:Value}{w:World}{A:Nat→Prop}(h:RatP q v w A):RatP q v w (fun k=>A k∨NC w k):=by
 obtain⟨b,h1,h2,h3⟩:=h
 exact⟨b,h1,h2.clr,h3.imp IntP.clr (fun k=>⟨k.1,k.2.clr⟩)⟩
theorem RatO.clr{q:Rat}{v:Value}{w:World}{A:Nat→Prop}(h:RatO q v w A):RatO q v w (fun k=>A k∨NC w k):=h.imp id RatP.clr
def GClr(g:GF):Prop:=g.int=false∧∀ v W A,g.R v W A→g.R v W (fun k=>A k∨NC W k)
theorem okg_clr{W:World}{A:Nat→Prop}:∀{l:List GF} {vs:List Value},(∀ g∈l,GClr g)→okg l vs W A→okg l vs W (fun k=>A k∨NC W k)
 | [],[],_,_=>trivial
 | g :: l,v :: vs,hg,h=>⟨(hg g List.mem_cons_self).2 v W A h.1,okg_clr (fun x hx=>hg x (List.mem_cons_of_mem _ hx)) h.2⟩
 | [],_ :: _,_,h=>h.elim
 | _ :: _,[],_,h=>h.elim
theorem gro_clr(q:Rat):GClr (gro q):=⟨rfl,fun _ _ _ h=>RatO.clr h⟩
theorem gb_clr(b:Bool):GClr (gl (.bool b)):=⟨rfl,fun _ _ _ h=>h⟩
theorem gn_clr:GClr (gl .nilp):=⟨rfl,fun _ _ _ h=>h⟩
theorem mR_clr(p:Q4)(t:Bool):∀ g∈mR p t,GClr g:=by
 intro g hg
 simp only[mR,cn,List.cons_append,List.nil_append,List.mem_cons,List.not_mem_nil,or_false] at hg
 rcases hg with rfl|rfl|rfl|rfl|rfl|rfl|rfl|rfl|rfl<;>first|exact gro_clr _|exact gb_clr _
def sR:List GF:=cn (⟨1,0⟩:QC)++[gl .nilp,gl .nilp,gl .nilp,gl .nilp]++cn (⟨1,0⟩:QC)++[gl (.bool false)]
theorem sR_clr:∀ g∈sR,GClr g:=by
 intro g hg
 simp only[sR,cn,List.cons_append,List.nil_append,List.mem_cons,List.not_mem_nil,or_false] at hg
 rcases hg with rfl|rfl|rfl|rfl|rfl|rfl|rfl|rfl|rfl<;>first|exact gro_clr _|exact gb_clr _|exact gn_clr
theorem spec_arg{P:Program}{hp:Bool}{f:FuncId}{a b:List FR}{r:FV}(h:SpecC P hp f a r)(k:∀ vs w A,okf b vs w A→okf a vs w A):SpecC P hp f b r :=
 ⟨h.ent,fun w A vs hR hA hu=>h.ok w A vs hR hA (k vs w A hu)⟩
theorem sR_q1{vs:List Value}{w:World}{A:Nat→Prop}(h:okg sR vs w A):okg (mR q1 false) vs w A:=okg_nil0 h
section
variable(t u:Bool)(m p:Q4)
end
theorem nm4_dq{q:Q4}(h:dq q≠⟨0,0⟩):dq (nm4 q)≠⟨0,0⟩:=dq_smul (u:=by4 q) (by rw[←nm4_smul h]; exact h)
def MapOk(m:Q4):Prop:=Sh4 m∧Nf m∧dq m≠⟨0,0⟩
theorem q1_zl:ZL4 q1 2:=⟨ZL_int 1 0 (by decide) (by decide) (by decide) (by decide),ZL_int 0 0 (by decide) (by decide) (by decide) (by decide),ZL_int 0 0 (by decide) (by decide) (by decide) (by decide),ZL_int 1 0 (by decide) (by decide) (by decide) (by decide)⟩
theorem q1_dq:dq q1≠⟨0,0⟩:=by decide +kernel
theorem eOpenOk(m:Q4)(t:Bool)(h:MapOk m):SpecC Tryz.prog true 21 [.row (mQ m t)] (.tup [.row (mR m t),.c (gl (.bool true))]):=by
 obtain⟨a,b,c,d⟩:=m
 obtain⟨⟨h1,h2,h3,h4⟩,hn,hd⟩:=h
 have k:=(eOpen a b c d t h1 h2 h3 h4).f hd
 by_cases hc:c=⟨1,0⟩
 ·exact k.t hc
 ·exact(k.f hc).t (hn.resolve_left hc)
theorem mCheckOk(m:Q4)(t:Bool)(h:MapOk m):SpecC Tryz.prog true 6 [.row (mQ m t)] (.r (.c (gl (.int .i64 0)))):=by
 obtain⟨a,b,c,d⟩:=m
 obtain⟨⟨h1,h2,h3,h4⟩,hn,hd⟩:=h
 exact((mCheck a b c d t h1 h2 h3 h4).f hd).t hn
theorem eCk(m:Q4)(t:Bool)(h:MapOk m):SpecC Tryz.prog true 25 [.row (mQ m t)] (.r (.c (gl (.bool false)))) :=
  ev_sp (L := mQ m t) tys_ok mixed
     [gs (mCheckOk m t h) [.row (syms 0 33)] (.r (.c (.lit (.int .i64 0))))]
     [] [] Tryz.func25 eo25 2000 [.row (syms 0 33)] (.r (.c (.lit (.bool false))))
def zM:List GF:=zGG++zGG++zGG++zGG++[gl (.bool false)]
theorem mQ_len(m:Q4)(t:Bool):(mQ m t).length=33:=rfl
theorem okg_pure{W W':World}{A A':Nat→Prop}:∀{l:List GF} {vs:List Value},l.all (fun g=>g.ex.isSome)=true→okg l vs W A→okg l vs W' A'
 | [],[],_,_=>trivial
 | g :: l,v :: vs,h,k=>by
  simp only[List.all_cons,Bool.and_eq_true] at h
  obtain⟨u,hu⟩:=Option.isSome_iff_exists.1 h.1
  exact⟨(g.exact u hu v W' A').2 ((g.exact u hu v W A).1 k.1),okg_pure h.2 k.2⟩
 | [],_ :: _,_,h=>h.elim
 | _ :: _,[],_,h=>h.elim
theorem mQ_pure(m:Q4)(t:Bool):(mQ m t).all (fun g=>g.ex.isSome)=true:=rfl
theorem zM_pure:zM.all (fun g=>g.ex.isSome)=true:=rfl
theorem okg_take{w:World}{A:Nat→Prop}:∀{l m:List GF} {vs:List Value},okg (l++m) vs w A→okg l (vs.take l.length) w A∧okg m (vs.drop l.length) w A
 | [],_,_,h=>⟨by simp[okg],by simpa using h⟩
 | g :: l,m,v :: vs,h=>by
  obtain⟨h1,h2⟩:=okg_take (l:=l) h.2
  exact⟨⟨h.1,h1⟩,h2⟩
 | _ :: _,_,[],h=>h.elim
end Go.Proofs.YtjlhiaafnpompaaGreat
