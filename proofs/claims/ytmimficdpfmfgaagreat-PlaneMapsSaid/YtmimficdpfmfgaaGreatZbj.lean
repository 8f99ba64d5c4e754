/- Laws for the walk. -/
import Derived.Test.YtmimficdpfmfgaaGreatZbh
import Derived.Test.YtmimficdpfmfgaaGreatZbi
set_option linter.unusedVariables false
set_option linter.unusedSimpArgs false
set_option maxHeartbeats 4000000
set_option linter.unusedSimpArgs false
namespace Go.Proofs.YtmimficdpfmfgaaGreat
open Go.RowKit Tr
open Classical
end Go.Proofs.YtmimficdpfmfgaaGreat
set_option linter.unusedSimpArgs false
namespace Go.Proofs.YtmimficdpfmfgaaGreat
open Go.RowKit Tr
open Classical
theorem ssgn{q:Rat}:q.num.sign=0↔q=0:=⟨fun h=>Rat.num_eq_zero.1 (Int.sign_eq_zero_iff_zero.1 h),fun h=>by rw[h]; rfl⟩
def gbSame{L:List GF}(t:TypeId)(x y:AR)(v:Value)(h:∀ xo yo w,(do eqGuard .eql t xo yo v v; binOp .eql t v v:Sem Value).run Tryz.prog w=.ok (.bool true) w)(hx:x.gv L=some v:=by kernel_rfl)(hy:y.gv L=some v:=by kernel_rfl):GB Tryz.prog L :=
 gb .eql t x y (.lit (.bool true)) h hx hy rfl
def zV(n:Nat):List Value:=(List.range (2*n)).map fun i=>if i % 2=0 then .bool false else .string ⟨#[]⟩
def byF(f0 f1 f2:Rat):Rat:=if f0=0 then if f1=0 then f2 else f1 else f0
def cirF(f0 f1 f2 f3:Rat):List GF:=rF (f0 / byF f0 f1 f2)++rF (f1 / byF f0 f1 f2)++rF (f2 / byF f0 f1 f2)++rF (f3 / byF f0 f1 f2)
end Go.Proofs.YtmimficdpfmfgaaGreat
set_option linter.unusedSimpArgs false
namespace Go.Proofs.YtmimficdpfmfgaaGreat
open Go.RowKit Tr
open Classical
end Go.Proofs.YtmimficdpfmfgaaGreat
namespace Go.Proofs.YtmimficdpfmfgaaGreat
open Go.RowKit Tr
def smul(u:QC)(p:QC×QC×QC×QC):QC×QC×QC×QC:=(u*p.1,u*p.2.1,u*p.2.2.1,u*p.2.2.2)
def stp(t:Bool)(a b c d:QC)(p:QC×QC×QC×QC):QC×QC×QC×QC :=
 if t then(a*cj p.1+b*cj p.2.2.1,a*cj p.2.1+b*cj p.2.2.2,c*cj p.1+d*cj p.2.2.1,c*cj p.2.1+d*cj p.2.2.2)
 else(a*p.1+b*p.2.2.1,a*p.2.1+b*p.2.2.2,c*p.1+d*p.2.2.1,c*p.2.1+d*p.2.2.2)
def Nf(p:QC×QC×QC×QC):Prop:=p.2.2.1=⟨1,0⟩∨(p.2.2.1=⟨0,0⟩∧p.2.2.2=⟨1,0⟩)
def dq(p:QC×QC×QC×QC):QC:=p.1*p.2.2.2 - p.2.1*p.2.2.1
theorem dq_smul{u:QC}{p:QC×QC×QC×QC}(h:dq (smul u p)≠⟨0,0⟩):dq p≠⟨0,0⟩:=fun e=>h (by
 have:dq (smul u p)=u*u*dq p:=by
  obtain⟨p,q,r,s⟩:=p
  simp only[dq,smul]
  apply Qbz<;>simp only[qmr,qmi,qsr,qsi]<;>grind
 rw[this,e]
 exact qmul0.2 (.inr rfl))
theorem dq_cd{p:QC×QC×QC×QC}(h:dq p≠⟨0,0⟩)(hc:p.2.2.1=⟨0,0⟩):p.2.2.2≠⟨0,0⟩:=fun hd=>h (by
 unfold dq
 rw[hc,hd]
 apply Qbz<;>simp only[qmr,qmi,qsr,qsi]<;>grind)
abbrev Q4:=QC×QC×QC×QC
def by4(p:Q4):QC:=if p.2.2.1=⟨0,0⟩ then p.2.2.2 else p.2.2.1
def nm4(p:Q4):Q4:=(p.1 / by4 p,p.2.1 / by4 p,p.2.2.1 / by4 p,p.2.2.2 / by4 p)
def ZL4(p:Q4)(k:Nat):Prop:=ZL p.1 k∧ZL p.2.1 k∧ZL p.2.2.1 k∧ZL p.2.2.2 k
def Sh4(p:Q4):Prop:=Qad p.1∧Qad p.2.1∧Qad p.2.2.1∧Qad p.2.2.2
def mR(p:Q4)(t:Bool):List GF:=cn p.1++cn p.2.1++cn p.2.2.1++cn p.2.2.2++[gl (.bool t)]
def mQ(p:Q4)(t:Bool):List GF:=(Qac p.1).cells++(Qac p.2.1).cells++(Qac p.2.2.1).cells++(Qac p.2.2.2).cells++[gl (.bool t)]
theorem ZL4.mono{p:Q4}{k l:Nat}(h:ZL4 p k)(hk:k≤l):ZL4 p l:=⟨h.1.mono hk,h.2.1.mono hk,h.2.2.1.mono hk,h.2.2.2.mono hk⟩
theorem Sh4.zl{p:Q4}(h:Sh4 p):ZL4 p 1024:=⟨(Qaa h.1).mono (by decide),(Qaa h.2.1).mono (by decide),(Qaa h.2.2.1).mono (by decide),(Qaa h.2.2.2).mono (by decide)⟩
theorem by4_ne{p:Q4}(h:dq p≠⟨0,0⟩):by4 p≠⟨0,0⟩:=by
 unfold by4
 split
 ·next hc=>exact dq_cd h hc
 ·next hc=>exact hc
theorem by4_zl{p:Q4}{k:Nat}(h:ZL4 p k):ZL (by4 p) k:=by
 unfold by4
 split
 ·exact h.2.2.2
 ·exact h.2.2.1
theorem nm4_zl{p:Q4}{k:Nat}(h:ZL4 p k)(hd:dq p≠⟨0,0⟩):ZL4 (nm4 p) (8*k+2):=by
 have hb:=by4_ne hd
 have hz:=by4_zl h
 exact⟨(Qcn hb h.1 hz).mono (by omega),(Qcn hb h.2.1 hz).mono (by omega),(Qcn hb h.2.2.1 hz).mono (by omega),(Qcn hb h.2.2.2 hz).mono (by omega)⟩
theorem qdm{x y:QC}(h:y≠⟨0,0⟩):y*(x / y)=x:=by
 have hn:=qc_nz h
 have hi:=Rat.mul_inv_cancel _ hn
 have e1:(x / y).re=(x.re*y.re - x.im*(-y.im))*(y.re*y.re+y.im*y.im)⁻¹:=rfl
 have e2:(x / y).im=(x.re*(-y.im)+x.im*y.re)*(y.re*y.re+y.im*y.im)⁻¹:=rfl
 generalize (y.re*y.re+y.im*y.im)⁻¹=i at *
 apply Qbz
 ·rw[qmr,e1,e2]; grind
 ·rw[qmi,e1,e2]; grind
theorem qd_self{y:QC}(h:y≠⟨0,0⟩):y / y=⟨1,0⟩:=by
 have k:y*(y / y - ⟨1,0⟩)=⟨0,0⟩:=by
  have e:=qdm (x:=y) h
  have e1:=congrArg QC.re e
  have e2:=congrArg QC.im e
  simp only[qmr,qmi] at e1 e2
  apply Qbz<;>simp only[qmr,qmi,qsr,qsi]<;>grind
 exact qc_sub0.1 ((qmul0.1 k).elim (fun k=>absurd k h) id)
theorem qd_zero{y:QC}(h:y≠⟨0,0⟩):(⟨0,0⟩:QC) / y=⟨0,0⟩:=(qmul0.1 (qdm (x:=⟨0,0⟩) h)).elim (fun k=>absurd k h) id
theorem qd_one(x:QC):x / ⟨1,0⟩=x:=by
 have h:=qdm (x:=x) (y:=⟨1,0⟩) (by decide)
 have e1:=congrArg QC.re h
 have e2:=congrArg QC.im h
 simp only[qmr,qmi] at e1 e2
 apply Qbz<;>grind
theorem nm4_smul{p:Q4}(h:dq p≠⟨0,0⟩):p=smul (by4 p) (nm4 p):=by
 have hb:=by4_ne h
 obtain⟨a,b,c,d⟩:=p
 simp only[smul,nm4,qdm hb]
theorem nm4_nf{p:Q4}(h:dq p≠⟨0,0⟩):Nf (nm4 p):=by
 have hb:=by4_ne h
 by_cases hc:p.2.2.1=⟨0,0⟩
 ·have e:by4 p=p.2.2.2:=if_pos hc
  refine .inr ⟨?_,?_⟩
  ·show p.2.2.1 / by4 p=_
   rw[hc]; exact qd_zero hb
  ·show p.2.2.2 / by4 p=_
   rw[e] at hb ⊢; exact qd_self hb
 ·have e:by4 p=p.2.2.1:=if_neg hc
  refine .inl ?_
  show p.2.2.1 / by4 p=_
  rw[e] at hb ⊢; exact qd_self hb
theorem nm4_id{p:Q4}(h:Nf p):nm4 p=p:=by
 have e:by4 p=⟨1,0⟩:=by
  rcases h with h|⟨h1,h2⟩
  ·unfold by4; rw[h,if_neg (by decide)]
  ·unfold by4; rw[if_pos h1,h2]
 unfold nm4
 simp only[e,qd_one]
open Classical in
theorem eTold(t:Bool)(p:Q4)(hm:ZL4 p 200000000)(hd:dq p≠⟨0,0⟩):Qae Tryz.prog true 125 [.row (mR p t)] (if Sh4 (nm4 p) then .tup [.row (mQ (nm4 p) t),.c (gl (.int .i64 0))] else .tup [.row (zGG++zGG++zGG++zGG++[gl (.bool false)]),.c (gl (.int .i64 4))]):=by
 obtain⟨m1,m2,m3,m4⟩:=hm
 obtain⟨a,b,c,d⟩:=p
 by_cases hc:c=⟨0,0⟩
 ·have e:by4 (a,b,c,d)=d:=if_pos hc
  have k:=dq_cd hd hc
  unfold nm4 Sh4 mQ mR
  simp only[e]
  cases t
  ·exact eTold0f a b c d m1 m2 m3 m4 hc k
  ·exact eTold0t a b c d m1 m2 m3 m4 hc k
 ·have e:by4 (a,b,c,d)=c:=if_neg hc
  unfold nm4 Sh4 mQ mR
  simp only[e]
  cases t
  ·exact eToldCf a b c d m1 m2 m3 m4 hc
  ·exact eToldCt a b c d m1 m2 m3 m4 hc
def IsW(L W:Nat)(z:QC):Prop:=∃ x y:Int,z.re*(L:Int)=(x:Int)∧z.im*(L:Int)=(y:Int)∧x.natAbs≤W∧y.natAbs≤W
theorem IsW.mul{L W L' W':Nat}{z w:QC}(h:IsW L W z)(k:IsW L' W' w):IsW (L*L') (2*(W*W')) (z*w):=by
 obtain⟨x,y,h1,h2,h3,h4⟩:=h
 obtain⟨u,v,k1,k2,k3,k4⟩:=k
 refine⟨x*u - y*v,x*v+y*u,?_,?_,?_,?_⟩
 ·rw[Int.natCast_mul,Rat.intCast_mul,Rat.intCast_sub,Rat.intCast_mul,Rat.intCast_mul,←h1,←h2,←k1,←k2,qmr]; grind
 ·rw[Int.natCast_mul,Rat.intCast_mul,Rat.intCast_add,Rat.intCast_mul,Rat.intCast_mul,←h1,←h2,←k1,←k2,qmi]; grind
 ·have e1:=Nat.mul_le_mul h3 k3
  have e2:=Nat.mul_le_mul h4 k4
  rw[←Int.natAbs_mul] at e1 e2
  have:=Int.natAbs_sub_le (x*u) (y*v)
  omega
 ·have e1:=Nat.mul_le_mul h3 k4
  have e2:=Nat.mul_le_mul h4 k3
  rw[←Int.natAbs_mul] at e1 e2
  have:=Int.natAbs_add_le (x*v) (y*u)
  omega
theorem IsW.add{L W W':Nat}{z w:QC}(h:IsW L W z)(k:IsW L W' w):IsW L (W+W') (z+w):=by
 obtain⟨x,y,h1,h2,h3,h4⟩:=h
 obtain⟨u,v,k1,k2,k3,k4⟩:=k
 refine⟨x+u,y+v,?_,?_,?_,?_⟩
 ·rw[Rat.intCast_add,←h1,←k1,qar]; grind
 ·rw[Rat.intCast_add,←h2,←k2,qai]; grind
 ·have:=Int.natAbs_add_le x u; omega
 ·have:=Int.natAbs_add_le y v; omega
theorem IsW.cj{L W:Nat}{z:QC}(h:IsW L W z):IsW L W (cj z):=by
 obtain⟨x,y,h1,h2,h3,h4⟩:=h
 refine⟨x,-y,h1,?_,h3,by omega⟩
 rw[Rat.intCast_neg,←h2]; show -z.im*_=_; grind
def W4(L W:Nat)(p:QC×QC×QC×QC):Prop:=IsW L W p.1∧IsW L W p.2.1∧IsW L W p.2.2.1∧IsW L W p.2.2.2
theorem IsW_of{z:QC}{L B D:Nat}(hr:z.re.den ∣ L)(hi:z.im.den ∣ L)(hL:L≤D)(h1:z.re.num.natAbs≤B)(h2:z.im.num.natAbs≤B):IsW L (B*D) z:=by
 obtain⟨u,hu⟩:=hr
 obtain⟨v,hv⟩:=hi
 refine⟨z.re.num*u,z.im.num*v,?_,?_,?_,?_⟩
 ·rw[hu,Int.natCast_mul,Rat.intCast_mul,Rat.intCast_mul,←num_den z.re]; grind
 ·rw[hv,Int.natCast_mul,Rat.intCast_mul,Rat.intCast_mul,←num_den z.im]; grind
 ·rw[Int.natAbs_mul]
  refine Nat.mul_le_mul h1 ?_
  have:=z.re.den_nz
  rw[Int.natAbs_natCast]
  exact Nat.le_trans (Nat.le_mul_of_pos_left u (Nat.pos_of_ne_zero z.re.den_nz)) (by rw[←hu]; exact hL)
 ·rw[Int.natAbs_mul]
  refine Nat.mul_le_mul h2 ?_
  have:=z.im.den_nz
  rw[Int.natAbs_natCast]
  exact Nat.le_trans (Nat.le_mul_of_pos_left v (Nat.pos_of_ne_zero z.im.den_nz)) (by rw[←hv]; exact hL)
theorem wl_m{m n j k:Nat}(h:(words m).length≤j)(g:(words n).length≤k):(words (m*n)).length≤j+k:=wl_mul h g
theorem dvd8(a b c d e f g h:Nat):a ∣ a*(b*(c*(d*(e*(f*(g*h))))))∧b ∣ a*(b*(c*(d*(e*(f*(g*h))))))∧c ∣ a*(b*(c*(d*(e*(f*(g*h))))))∧d ∣ a*(b*(c*(d*(e*(f*(g*h))))))∧e ∣ a*(b*(c*(d*(e*(f*(g*h))))))∧f ∣ a*(b*(c*(d*(e*(f*(g*h))))))∧g ∣ a*(b*(c*(d*(e*(f*(g*h))))))∧h ∣ a*(b*(c*(d*(e*(f*(g*h)))))):=by
 have l:∀{x y z:Nat},x ∣ y→x ∣ z*y:=fun h=>Nat.dvd_trans h (Nat.dvd_mul_left _ _)
 have o:∀ x y:Nat,x ∣ x*y:=fun x y=>Nat.dvd_mul_right x y
 exact⟨o _ _,l (o _ _),l (l (o _ _)),l (l (l (o _ _))),l (l (l (l (o _ _)))),l (l (l (l (l (o _ _))))),l (l (l (l (l (l (o _ _)))))),l (l (l (l (l (l (l (Nat.dvd_refl _)))))))⟩
theorem big_of(k:Nat):∃ B,(words B).length≤k+1∧∀ n,(words n).length≤k→n≤B :=
 ⟨4294967296 ^ k,words_length_le (Nat.pow_lt_pow_right (by decide) (by omega)),fun n h=>Nat.le_of_lt (Nat.lt_of_lt_of_le (lt_words n) (Nat.pow_le_pow_right (by decide) h))⟩
def q1:Q4:=(⟨1,0⟩,⟨0,0⟩,⟨0,0⟩,⟨1,0⟩)
def mul4(x y:Q4):Q4:=stp false x.1 x.2.1 x.2.2.1 x.2.2.2 y
def adj4(b:Q4):Q4:=(b.2.2.2,⟨0,0⟩ - b.2.1,⟨0,0⟩ - b.2.2.1,b.1)
theorem q4_ext{p q:Q4}(h1:p.1=q.1)(h2:p.2.1=q.2.1)(h3:p.2.2.1=q.2.2.1)(h4:p.2.2.2=q.2.2.2):p=q:=Prod.ext h1 (Prod.ext h2 (Prod.ext h3 h4))
theorem dq_adj(b:Q4):dq (adj4 b)=dq b:=by
 obtain⟨a,b,c,d⟩:=b
 simp only[adj4,dq]
 apply Qbz<;>simp only[qmr,qmi,qsr,qsi]<;>grind
def inv4(b:Q4):Q4:=nm4 (adj4 b)
def W1(b m:Q4):Q4:=mul4 m (adj4 b)
def W2(b m:Q4):Q4:=mul4 b (W1 b m)
section
variable{b m:Q4}(hb:dq b≠⟨0,0⟩)(hm:dq m≠⟨0,0⟩)
theorem adj_ne(hb:dq b≠⟨0,0⟩):dq (adj4 b)≠⟨0,0⟩:=by rw[dq_adj]; exact hb
end
theorem W4_ofk{a b c d:QC}{k:Nat}(ha:ZL a k)(hb:ZL b k)(hc:ZL c k)(hd:ZL d k):∃ L W,L≠0∧(words L).length≤8*k∧(words W).length≤9*k+1∧W4 L W (a,b,c,d):=by
 obtain⟨L,hL⟩:∃ L,L=a.re.den*(a.im.den*(b.re.den*(b.im.den*(c.re.den*(c.im.den*(d.re.den*d.im.den)))))):=⟨_,rfl⟩
 obtain⟨d1,d2,d3,d4,d5,d6,d7,d8⟩:=dvd8 a.re.den a.im.den b.re.den b.im.den c.re.den c.im.den d.re.den d.im.den
 rw[←hL] at d1 d2 d3 d4 d5 d6 d7 d8
 have hl:(words L).length≤8*k:=by
  rw[hL]
  exact Nat.le_trans (wl_m ha.1.2 (wl_m ha.2.2 (wl_m hb.1.2 (wl_m hb.2.2 (wl_m hc.1.2 (wl_m hc.2.2 (wl_m hd.1.2 hd.2.2))))))) (by omega)
 have h0:L≠0:=by
  have:=a.re.den_nz; have:=a.im.den_nz; have:=b.re.den_nz; have:=b.im.den_nz; have:=c.re.den_nz; have:=c.im.den_nz; have:=d.re.den_nz; have:=d.im.den_nz
  rw[hL]
  simp only[Nat.mul_ne_zero_iff]
  exact⟨by assumption,by assumption,by assumption,by assumption,by assumption,by assumption,by assumption,by assumption⟩
 obtain⟨B,hB1,hB2⟩:=big_of k
 have hB:∀{q:Rat},RL q k→q.num.natAbs≤B:=fun h=>hB2 _ h.1
 refine⟨L,B*L,h0,hl,Nat.le_trans (wl_m hB1 hl) (by omega),?_⟩
 exact⟨IsW_of d1 d2 (Nat.le_refl _) (hB ha.1) (hB ha.2),IsW_of d3 d4 (Nat.le_refl _) (hB hb.1) (hB hb.2),IsW_of d5 d6 (Nat.le_refl _) (hB hc.1) (hB hc.2),IsW_of d7 d8 (Nat.le_refl _) (hB hd.1) (hB hd.2)⟩
theorem IsW.sub{L W W':Nat}{z w:QC}(h:IsW L W z)(k:IsW L W' w):IsW L (W+W') (z - w):=by
 obtain⟨x,y,h1,h2,h3,h4⟩:=h
 obtain⟨u,v,k1,k2,k3,k4⟩:=k
 refine⟨x - u,y - v,?_,?_,?_,?_⟩
 ·rw[Rat.intCast_sub,←h1,←k1,qsr]; grind
 ·rw[Rat.intCast_sub,←h2,←k2,qsi]; grind
 ·have:=Int.natAbs_sub_le x u; omega
 ·have:=Int.natAbs_sub_le y v; omega
theorem IsW.mono{L W W':Nat}{z:QC}(h:IsW L W z)(k:W≤W'):IsW L W' z:=by
 obtain⟨x,y,h1,h2,h3,h4⟩:=h
 exact⟨x,y,h1,h2,by omega,by omega⟩
end Go.Proofs.YtmimficdpfmfgaaGreat
namespace Go.Proofs.YtmimficdpfmfgaaGreat
open Go.RowKit Tr
theorem ZL4.w{p:Q4}{k:Nat}(h:ZL4 p k):∃ L W,L≠0∧(words L).length≤8*k∧(words W).length≤9*k+1∧W4 L W p:=by
 obtain⟨a,b,c,d⟩:=p
 exact W4_ofk h.1 h.2.1 h.2.2.1 h.2.2.2
open Classical
def wq83(b c:QC):QC:=((⟨0,0⟩:QC) - b) / ((⟨0,0⟩:QC) - c)
def wq84(c:QC):QC:=((⟨0,0⟩:QC) - c) / ((⟨0,0⟩:QC) - c)
theorem eUndoC(a b c d:QC)(b_a:ZL a 200000000)(b_b:ZL b 200000000)(b_c:ZL c 200000000)(b_d:ZL d 200000000)(hc:¬(((⟨0,0⟩:QC) - c)=(⟨0,0⟩:QC))):Qae Tryz.prog true 123 [.row (cn a++cn b++cn c++cn d++[gl (.bool false)])] (.r (.row (cn (d / ((⟨0,0⟩:QC) - c))++cn (wq83 b c)++cn (wq84 c)++cn (a / ((⟨0,0⟩:QC) - c))++[gl (.bool false)]))) :=
  Qam (L := [cn a,cn b,cn c,cn d,cn ((⟨0,0⟩ : QC) - b),cn ((⟨0,0⟩ : QC) - c),cn (d / ((⟨0,0⟩ : QC) - c)),cn (wq83 b c),cn (wq84 c),cn (a / ((⟨0,0⟩ : QC) - c))].flatten) tys_ok mixed
     [gs (pNNeg b b_b.mn) [sy [2,3]] (.r (sy [8,9])),gs (pNNeg c b_c.mn) [sy [4,5]] (.r (sy [10,11])),gs (eNormCf d ((⟨0,0⟩:QC) - b) ((⟨0,0⟩:QC) - c) a b_d.mn ((ZL_n0 b_b).mn) ((ZL_n0 b_c).mn) b_a.mn hc) [.row (flA [Qab 6 6,[.sym 0,.sym 1,.lit (.bool false)]])] (.r (.row (flA [Qab 12 8,[.lit (.bool false)]])))]
     [] [] Tryz.func123 eo123 2000 [.row (flA [Qab 0 8,[.lit (.bool false)]])] (.r (.row (flA [Qab 12 8,[.lit (.bool false)]])))
theorem eUndo0(a b c d:QC)(b_a:ZL a 200000000)(b_b:ZL b 200000000)(b_c:ZL c 200000000)(b_d:ZL d 200000000)(hc:((⟨0,0⟩:QC) - c)=(⟨0,0⟩:QC))(ha:¬(a=(⟨0,0⟩:QC))):Qae Tryz.prog true 123 [.row (cn a++cn b++cn c++cn d++[gl (.bool false)])] (.r (.row (cn (d / a)++cn (((⟨0,0⟩:QC) - b) / a)++cn (((⟨0,0⟩:QC) - c) / a)++cn (a / a)++[gl (.bool false)]))) :=
  Qam (L := [cn a,cn b,cn c,cn d,cn ((⟨0,0⟩ : QC) - b),cn ((⟨0,0⟩ : QC) - c),cn (d / a),cn (((⟨0,0⟩ : QC) - b) / a),cn (((⟨0,0⟩ : QC) - c) / a),cn (a / a)].flatten) tys_ok mixed
     [gs (pNNeg b b_b.mn) [sy [2,3]] (.r (sy [8,9])),gs (pNNeg c b_c.mn) [sy [4,5]] (.r (sy [10,11])),gs (eNorm0f d ((⟨0,0⟩:QC) - b) ((⟨0,0⟩:QC) - c) a b_d.mn ((ZL_n0 b_b).mn) ((ZL_n0 b_c).mn) b_a.mn hc ha) [.row (flA [Qab 6 6,[.sym 0,.sym 1,.lit (.bool false)]])] (.r (.row (flA [Qab 12 8,[.lit (.bool false)]])))]
     [] [] Tryz.func123 eo123 2000 [.row (flA [Qab 0 8,[.lit (.bool false)]])] (.r (.row (flA [Qab 12 8,[.lit (.bool false)]])))
theorem eUndo(p:Q4)(hp:ZL4 p 200000000)(hd:dq p≠⟨0,0⟩):Qae Tryz.prog true 123 [.row (mR p false)] (.r (.row (mR (inv4 p) false))):=by
 obtain⟨m1,m2,m3,m4⟩:=hp
 obtain⟨a,b,c,d⟩:=p
 unfold inv4
 by_cases hc:((⟨0,0⟩:QC) - c)=⟨0,0⟩
 ·have e:by4 (adj4 (a,b,c,d))=a:=if_pos hc
  have k:a≠⟨0,0⟩:=dq_cd (adj_ne hd) hc
  unfold nm4
  rw[e]
  exact eUndo0 a b c d m1 m2 m3 m4 hc k
 ·have e:by4 (adj4 (a,b,c,d))=(⟨0,0⟩:QC) - c:=if_neg hc
  unfold nm4
  rw[e]
  exact eUndoC a b c d m1 m2 m3 m4 hc
theorem rNmC(a b c d:QC)(t:Bool)(b_a:ZL a 1000000)(b_b:ZL b 1000000)(b_c:ZL c 1000000)(b_d:ZL d 1000000)(hc:¬(c=(⟨0,0⟩:QC))):Qae Tryz.prog true 83 [.row (rG a),.row (rG b),.row (rG c),.row (rG d),.c (gx (.bool t))] (.r (.row (rG (a / c)++rG (b / c)++rG (c / c)++rG (d / c)++[gx (.bool t)]))) :=
  Qam (L := [cG a,cG b,cG c,cG d,[gx (.bool t)],cG (a / c),cG (b / c),cG (c / c),cG (d / c)].flatten) tys_ok mixed
     [gs (Qbx c false (fI hc)) [.row (gR 12)] (.r (.c (.lit (.bool false)))),gs (Qbq a c b_a.mn b_c.mn hc) [.row (gR 0),.row (gR 12)] (.r (.row (gR 25))),gs (Qbq b c b_b.mn b_c.mn hc) [.row (gR 6),.row (gR 12)] (.r (.row (gR 31))),gs (Qbq c c b_c.mn b_c.mn hc) [.row (gR 12),.row (gR 12)] (.r (.row (gR 37))),gs (Qbq d c b_d.mn b_c.mn hc) [.row (gR 18),.row (gR 12)] (.r (.row (gR 43)))]
     [] [] Tryz.func83 eo83 2000 [.row (gR 0),.row (gR 6),.row (gR 12),.row (gR 18),cS 24] (.r (.row (flA [gL [25,31,37,43],[.sym 24]])))
theorem rNm0(a b c d:QC)(t:Bool)(b_a:ZL a 1000000)(b_b:ZL b 1000000)(b_c:ZL c 1000000)(b_d:ZL d 1000000)(hc:c=(⟨0,0⟩:QC))(hd:¬(d=(⟨0,0⟩:QC))):Qae Tryz.prog true 83 [.row (rG a),.row (rG b),.row (rG c),.row (rG d),.c (gx (.bool t))] (.r (.row (rG (a / d)++rG (b / d)++rG (c / d)++rG (d / d)++[gx (.bool t)]))) :=
  Qam (L := [cG a,cG b,cG c,cG d,[gx (.bool t)],cG (a / d),cG (b / d),cG (c / d),cG (d / d)].flatten) tys_ok mixed
     [gs (Qbx c true (tI hc)) [.row (gR 12)] (.r (.c (.lit (.bool true)))),gs (Qbq a d b_a.mn b_d.mn hd) [.row (gR 0),.row (gR 18)] (.r (.row (gR 25))),gs (Qbq b d b_b.mn b_d.mn hd) [.row (gR 6),.row (gR 18)] (.r (.row (gR 31))),gs (Qbq c d b_c.mn b_d.mn hd) [.row (gR 12),.row (gR 18)] (.r (.row (gR 37))),gs (Qbq d d b_d.mn b_d.mn hd) [.row (gR 18),.row (gR 18)] (.r (.row (gR 43)))]
     [] [] Tryz.func83 eo83 2000 [.row (gR 0),.row (gR 6),.row (gR 12),.row (gR 18),cS 24] (.r (.row (flA [gL [25,31,37,43],[.sym 24]])))
def mGt(p:Q4)(t:Bool):List GF:=rG p.1++rG p.2.1++rG p.2.2.1++rG p.2.2.2++[gx (.bool t)]
theorem rNorm4(p:Q4)(t:Bool)(hp:ZL4 p 1000000)(hd:dq p≠⟨0,0⟩):Qae Tryz.prog true 83 [G1 p.1,G1 p.2.1,G1 p.2.2.1,G1 p.2.2.2,.c (gx (.bool t))] (.r (.row (mGt (nm4 p) t))):=by
 obtain⟨m1,m2,m3,m4⟩:=hp
 obtain⟨a,b,c,d⟩:=p
 by_cases hc:c=⟨0,0⟩
 ·have e:by4 (a,b,c,d)=d:=if_pos hc
  have k:=dq_cd hd hc
  unfold nm4
  rw[e]
  exact rNm0 a b c d t m1 m2 m3 m4 hc k
 ·have e:by4 (a,b,c,d)=c:=if_neg hc
  unfold nm4
  rw[e]
  exact rNmC a b c d t m1 m2 m3 m4 hc
def hm4(z:QC):Q4:=((⟨1,0⟩:QC),(⟨0,0⟩:QC) - z,(⟨0,0⟩:QC) - cj z,(⟨1,0⟩:QC))
theorem inv_dq{m:Q4}(hd:dq m≠⟨0,0⟩):dq (inv4 m)≠⟨0,0⟩:=dq_smul (u:=by4 (adj4 m)) (by unfold inv4; rw[←nm4_smul (adj_ne hd)]; exact adj_ne hd)
theorem nm4_dq{q:Q4}(h:dq q≠⟨0,0⟩):dq (nm4 q)≠⟨0,0⟩:=dq_smul (u:=by4 q) (by rw[←nm4_smul h]; exact h)
end Go.Proofs.YtmimficdpfmfgaaGreat
set_option linter.unusedSimpArgs false
namespace Go.Proofs.YtmimficdpfmfgaaGreat
open Go.RowKit Tr
open Classical
theorem hmn(z:QC):hm4 z=((⟨1,0⟩:QC),ng z,ng (cj z),(⟨1,0⟩:QC)):=by unfold hm4; rw[←ng_eq,←ng_eq]
end Go.Proofs.YtmimficdpfmfgaaGreat
namespace Go.Proofs.YtmimficdpfmfgaaGreat
open Go.RowKit Tr
open Classical
theorem eSendF0(a b c d w:QC)(b_a:ZL a 200000000)(b_b:ZL b 200000000)(b_c:ZL c 200000000)(b_d:ZL d 200000000)(b_w:ZL w 200000000)(h0:((c*w)+d)=(⟨0,0⟩:QC)):Qae Tryz.prog true 77 [.row (cn a++cn b++cn c++cn d++[gl (.bool false)]),.row ([gl (.bool false)]++cn w)] (.r (.row ([gl (.bool true),gl .nilp,gl .nilp]))) :=
  Qam (L := [cn a,cn b,cn c,cn d,cn w,cn (a * w),cn ((a * w) + b),cn (c * w),cn ((c * w) + d)].flatten) tys_ok mixed
     [gs (pNMul a w b_a b_w (by decide)) [sy [0,1],sy [8,9]] (.r (sy [10,11])),gs (pNAdd (a*w) b (Qah b_a b_w) b_b (by decide)) [sy [10,11],sy [2,3]] (.r (sy [12,13])),gs (pNMul c w b_c b_w (by decide)) [sy [4,5],sy [8,9]] (.r (sy [14,15])),gs (pNAdd (c*w) d (Qah b_c b_w) b_d (by decide)) [sy [14,15],sy [6,7]] (.r (sy [16,17])),gs (Qcj ((c*w)+d) true (tI h0)) [sy [16,17]] (.r (.c (.lit (.bool true))))]
     [] [] Tryz.func77 eo77 2000 [.row (flA [Qab 0 8,[.lit (.bool false)]]),.row [.lit (.bool false),.sym 8,.sym 9]] (.r (.row [.lit (.bool true),.lit .nilp,.lit .nilp]))
theorem eSendF1(a b c d w:QC)(b_a:ZL a 200000000)(b_b:ZL b 200000000)(b_c:ZL c 200000000)(b_d:ZL d 200000000)(b_w:ZL w 200000000)(h0:¬(((c*w)+d)=(⟨0,0⟩:QC))):Qae Tryz.prog true 77 [.row (cn a++cn b++cn c++cn d++[gl (.bool false)]),.row ([gl (.bool false)]++cn w)] (.r (.row ([gl (.bool false)]++cn (((a*w)+b) / ((c*w)+d))))) :=
  Qam (L := [cn a,cn b,cn c,cn d,cn w,cn (a * w),cn ((a * w) + b),cn (c * w),cn ((c * w) + d),cn (((a * w) + b) / ((c * w) + d))].flatten) tys_ok mixed
     [gs (pNMul a w b_a b_w (by decide)) [sy [0,1],sy [8,9]] (.r (sy [10,11])),gs (pNAdd (a*w) b (Qah b_a b_w) b_b (by decide)) [sy [10,11],sy [2,3]] (.r (sy [12,13])),gs (pNMul c w b_c b_w (by decide)) [sy [4,5],sy [8,9]] (.r (sy [14,15])),gs (pNAdd (c*w) d (Qah b_c b_w) b_d (by decide)) [sy [14,15],sy [6,7]] (.r (sy [16,17])),gs (Qcj ((c*w)+d) false (fI h0)) [sy [16,17]] (.r (.c (.lit (.bool false)))),gs (Qcz ((a*w)+b) ((c*w)+d) h0 (Qay (Qah b_a b_w) b_b) (Qay (Qah b_c b_w) b_d) (by decide)) [sy [12,13],sy [16,17]] (.r (sy [18,19]))]
     [] [] Tryz.func77 eo77 2000 [.row (flA [Qab 0 8,[.lit (.bool false)]]),.row [.lit (.bool false),.sym 8,.sym 9]] (.r (.row [.lit (.bool false),.sym 18,.sym 19]))
theorem eSendT0(a b c d w:QC)(b_a:ZL a 200000000)(b_b:ZL b 200000000)(b_c:ZL c 200000000)(b_d:ZL d 200000000)(b_w:ZL w 200000000)(h0:((c*(cj w))+d)=(⟨0,0⟩:QC)):Qae Tryz.prog true 77 [.row (cn a++cn b++cn c++cn d++[gl (.bool true)]),.row ([gl (.bool false)]++cn w)] (.r (.row ([gl (.bool true),gl .nilp,gl .nilp]))) :=
  Qam (L := [cn a,cn b,cn c,cn d,cn w,cn (cj w),cn (a * (cj w)),cn ((a * (cj w)) + b),cn (c * (cj w)),cn ((c * (cj w)) + d)].flatten) tys_ok mixed
     [gs (pNConj w b_w.mn) [sy [8,9]] (.r (sy [10,11])),gs (pNMul a (cj w) b_a (Qbb b_w) (by decide)) [sy [0,1],sy [10,11]] (.r (sy [12,13])),gs (pNAdd (a*(cj w)) b (Qah b_a (Qbb b_w)) b_b (by decide)) [sy [12,13],sy [2,3]] (.r (sy [14,15])),gs (pNMul c (cj w) b_c (Qbb b_w) (by decide)) [sy [4,5],sy [10,11]] (.r (sy [16,17])),gs (pNAdd (c*(cj w)) d (Qah b_c (Qbb b_w)) b_d (by decide)) [sy [16,17],sy [6,7]] (.r (sy [18,19])),gs (Qcj ((c*(cj w))+d) true (tI h0)) [sy [18,19]] (.r (.c (.lit (.bool true))))]
     [] [] Tryz.func77 eo77 2000 [.row (flA [Qab 0 8,[.lit (.bool true)]]),.row [.lit (.bool false),.sym 8,.sym 9]] (.r (.row [.lit (.bool true),.lit .nilp,.lit .nilp]))
def wr1(a b c d w:QC):QC:=((a*(cj w))+b) / ((c*(cj w))+d)
theorem eSendT1(a b c d w:QC)(b_a:ZL a 200000000)(b_b:ZL b 200000000)(b_c:ZL c 200000000)(b_d:ZL d 200000000)(b_w:ZL w 200000000)(h0:¬(((c*(cj w))+d)=(⟨0,0⟩:QC))):Qae Tryz.prog true 77 [.row (cn a++cn b++cn c++cn d++[gl (.bool true)]),.row ([gl (.bool false)]++cn w)] (.r (.row ([gl (.bool false)]++cn (wr1 a b c d w)))) :=
  Qam (L := [cn a,cn b,cn c,cn d,cn w,cn (cj w),cn (a * (cj w)),cn ((a * (cj w)) + b),cn (c * (cj w)),cn ((c * (cj w)) + d),cn (wr1 a b c d w)].flatten) tys_ok mixed
     [gs (pNConj w b_w.mn) [sy [8,9]] (.r (sy [10,11])),gs (pNMul a (cj w) b_a (Qbb b_w) (by decide)) [sy [0,1],sy [10,11]] (.r (sy [12,13])),gs (pNAdd (a*(cj w)) b (Qah b_a (Qbb b_w)) b_b (by decide)) [sy [12,13],sy [2,3]] (.r (sy [14,15])),gs (pNMul c (cj w) b_c (Qbb b_w) (by decide)) [sy [4,5],sy [10,11]] (.r (sy [16,17])),gs (pNAdd (c*(cj w)) d (Qah b_c (Qbb b_w)) b_d (by decide)) [sy [16,17],sy [6,7]] (.r (sy [18,19])),gs (Qcj ((c*(cj w))+d) false (fI h0)) [sy [18,19]] (.r (.c (.lit (.bool false)))),gs (Qcz ((a*(cj w))+b) ((c*(cj w))+d) h0 (Qay (Qah b_a (Qbb b_w)) b_b) (Qay (Qah b_c (Qbb b_w)) b_d) (by decide)) [sy [14,15],sy [18,19]] (.r (sy [20,21]))]
     [] [] Tryz.func77 eo77 2000 [.row (flA [Qab 0 8,[.lit (.bool true)]]),.row [.lit (.bool false),.sym 8,.sym 9]] (.r (.row [.lit (.bool false),.sym 20,.sym 21]))
def tw(t:Bool)(w:QC):QC:=if t then cj w else w
def den(t:Bool)(c d w:QC):QC:=c*tw t w+d
def snd(t:Bool)(a b c d w:QC):QC:=(a*tw t w+b) / den t c d w
theorem tw_zl{t:Bool}{w:QC}{k:Nat}(h:ZL w k):ZL (tw t w) k:=by
 cases t
 ·exact h
 ·exact Qbb h
theorem Qal{t:Bool}{a b c d w:QC}{k m:Nat}(h:den t c d w≠⟨0,0⟩)(ha:ZL a k)(hb:ZL b k)(hc:ZL c k)(hd:ZL d k)(hw:ZL w m):ZL (snd t a b c d w) (40*(k+m)+40) :=
 (Qcn h (Qay (Qah ha (tw_zl hw)) hb) (Qay (Qah hc (tw_zl hw)) hd)).mn
theorem Qbs(t:Bool)(a b c d w:QC)(b_a:ZL a 200000000)(b_b:ZL b 200000000)(b_c:ZL c 200000000)(b_d:ZL d 200000000)(b_w:ZL w 200000000)(h:den t c d w=⟨0,0⟩):Qae Tryz.prog true 77 [.row (cn a++cn b++cn c++cn d++[gx (.bool t)]),.row ([gl (.bool false)]++cn w)] (.r (.row [gl (.bool true),gl .nilp,gl .nilp])):=by
 cases t
 ·exact eSendF0 a b c d w b_a b_b b_c b_d b_w h
 ·exact eSendT0 a b c d w b_a b_b b_c b_d b_w h
theorem Qap(t:Bool)(a b c d w:QC)(b_a:ZL a 200000000)(b_b:ZL b 200000000)(b_c:ZL c 200000000)(b_d:ZL d 200000000)(b_w:ZL w 200000000)(h:den t c d w≠⟨0,0⟩):Qae Tryz.prog true 77 [.row (cn a++cn b++cn c++cn d++[gx (.bool t)]),.row ([gl (.bool false)]++cn w)] (.r (.row ([gl (.bool false)]++cn (snd t a b c d w)))):=by
 cases t
 ·exact eSendF1 a b c d w b_a b_b b_c b_d b_w h
 ·exact eSendT1 a b c d w b_a b_b b_c b_d b_w h
end Go.Proofs.YtmimficdpfmfgaaGreat
namespace Go.Proofs.YtmimficdpfmfgaaGreat
open Go.RowKit Tr
open Classical
theorem dNA(f0 f1 f2 f3:Rat)(b_f0:RL f0 1000000)(b_f1:RL f1 1000000)(b_f2:RL f2 1000000)(b_f3:RL f3 1000000)(k0:¬(f0.num.sign=0)):Qae Tryz.prog true 109 [.row (rF f0),.row (rG (⟨f1,f2⟩:QC)),.row (rF f3)] (.r (.row (rG (⟨f0 / f0,f1 / f0⟩:QC)++rG (⟨f2 / f0,f3 / f0⟩:QC)))) :=
  Qaj (L := [cF f0,cF f1,cF f2,cF f3,[gx (.int .i64 f0.num.sign)],cF (f0 / f0),cF (f1 / f0),cF (f2 / f0),cF (f3 / f0)].flatten) tys_ok mixed
     [gs (Qcy f0) [.row (qS 0)] (rS 12),gs (Qck f0 f0 b_f0.mn b_f0.mn (Qcl k0)) [.row (qS 0),.row (qS 0)] (rQ 13),gs (Qck f1 f0 b_f1.mn b_f0.mn (Qcl k0)) [.row (qS 3),.row (qS 0)] (rQ 16),gs (Qck f2 f0 b_f2.mn b_f0.mn (Qcl k0)) [.row (qS 6),.row (qS 0)] (rQ 19),gs (Qck f3 f0 b_f3.mn b_f0.mn (Qcl k0)) [.row (qS 9),.row (qS 0)] (rQ 22)]
     [bI .eql 3 (.sym 12) (li 0) f0.num.sign 0 false (by simp[cmpB,k0])] [] ((fs194 .nil):Tr.FnsOk Tryz.prog _) 1 2 Tryz.func109 eo109 2000 [.row (qS 0),.row (gR 3),.row (qS 9)] (.r (.row (gL [13,19])))
theorem dNB(f0 f1 f2 f3:Rat)(b_f0:RL f0 1000000)(b_f1:RL f1 1000000)(b_f2:RL f2 1000000)(b_f3:RL f3 1000000)(k0:f0.num.sign=0)(k1:¬(f1.num.sign=0)):Qae Tryz.prog true 109 [.row (rF f0),.row (rG (⟨f1,f2⟩:QC)),.row (rF f3)] (.r (.row (rG (⟨f0 / f1,f1 / f1⟩:QC)++rG (⟨f2 / f1,f3 / f1⟩:QC)))) :=
  Qaj (L := [cF f0,cF f1,cF f2,cF f3,[gx (.int .i64 f0.num.sign)],[gx (.int .i64 f1.num.sign)],cF (f0 / f1),cF (f1 / f1),cF (f2 / f1),cF (f3 / f1)].flatten) tys_ok mixed
     [gs (Qcy f0) [.row (qS 0)] (rS 12),gs (Qcy f1) [.row (qS 3)] (rS 13),gs (Qck f0 f1 b_f0.mn b_f1.mn (Qcl k1)) [.row (qS 0),.row (qS 3)] (rQ 14),gs (Qck f1 f1 b_f1.mn b_f1.mn (Qcl k1)) [.row (qS 3),.row (qS 3)] (rQ 17),gs (Qck f2 f1 b_f2.mn b_f1.mn (Qcl k1)) [.row (qS 6),.row (qS 3)] (rQ 20),gs (Qck f3 f1 b_f3.mn b_f1.mn (Qcl k1)) [.row (qS 9),.row (qS 3)] (rQ 23)]
     [bI .eql 3 (.sym 12) (li 0) f0.num.sign 0 true (by simp[cmpB,k0]),bI .eql 3 (.sym 13) (li 0) f1.num.sign 0 false (by simp[cmpB,k1])] [] ((fs194 .nil):Tr.FnsOk Tryz.prog _) 1 2 Tryz.func109 eo109 2000 [.row (qS 0),.row (gR 3),.row (qS 9)] (.r (.row (gL [14,20])))
theorem dNC(f0 f1 f2 f3:Rat)(b_f0:RL f0 1000000)(b_f1:RL f1 1000000)(b_f2:RL f2 1000000)(b_f3:RL f3 1000000)(k0:f0.num.sign=0)(k1:f1.num.sign=0)(k2:¬(f2.num.sign=0)):Qae Tryz.prog true 109 [.row (rF f0),.row (rG (⟨f1,f2⟩:QC)),.row (rF f3)] (.r (.row (rG (⟨f0 / f2,f1 / f2⟩:QC)++rG (⟨f2 / f2,f3 / f2⟩:QC)))) :=
  Qaj (L := [cF f0,cF f1,cF f2,cF f3,[gx (.int .i64 f0.num.sign)],[gx (.int .i64 f1.num.sign)],cF (f0 / f2),cF (f1 / f2),cF (f2 / f2),cF (f3 / f2)].flatten) tys_ok mixed
     [gs (Qcy f0) [.row (qS 0)] (rS 12),gs (Qcy f1) [.row (qS 3)] (rS 13),gs (Qck f0 f2 b_f0.mn b_f2.mn (Qcl k2)) [.row (qS 0),.row (qS 6)] (rQ 14),gs (Qck f1 f2 b_f1.mn b_f2.mn (Qcl k2)) [.row (qS 3),.row (qS 6)] (rQ 17),gs (Qck f2 f2 b_f2.mn b_f2.mn (Qcl k2)) [.row (qS 6),.row (qS 6)] (rQ 20),gs (Qck f3 f2 b_f3.mn b_f2.mn (Qcl k2)) [.row (qS 9),.row (qS 6)] (rQ 23)]
     [bI .eql 3 (.sym 12) (li 0) f0.num.sign 0 true (by simp[cmpB,k0]),bI .eql 3 (.sym 13) (li 0) f1.num.sign 0 true (by simp[cmpB,k1])] [] ((fs194 .nil):Tr.FnsOk Tryz.prog _) 1 2 Tryz.func109 eo109 2000 [.row (qS 0),.row (gR 3),.row (qS 9)] (.r (.row (gL [14,20])))
theorem dNor(f0 f1 f2 f3:Rat)(b0:RL f0 1000000)(b1:RL f1 1000000)(b2:RL f2 1000000)(b3:RL f3 1000000)(hn:byF f0 f1 f2≠0) :
  Qae Tryz.prog true 109 [F1 f0,.row (rF f1++rF f2),F1 f3] (.r (.row (cirF f0 f1 f2 f3))):=by
 unfold cirF
 by_cases h0:f0=0
 ·by_cases h1:f1=0
  ·have e:byF f0 f1 f2=f2:=by unfold byF; rw[if_pos h0,if_pos h1]
   rw[e] at hn ⊢
   exact dNC f0 f1 f2 f3 b0 b1 b2 b3 (ssgn.2 h0) (ssgn.2 h1) (fun k=>hn (ssgn.1 k))
  ·have e:byF f0 f1 f2=f1:=by unfold byF; rw[if_pos h0,if_neg h1]
   rw[e]
   exact dNB f0 f1 f2 f3 b0 b1 b2 b3 (ssgn.2 h0) (fun k=>h1 (ssgn.1 k))
 ·have e:byF f0 f1 f2=f0:=by unfold byF; rw[if_neg h0]
  rw[e]
  exact dNA f0 f1 f2 f3 b0 b1 b2 b3 (fun k=>h0 (ssgn.1 k))
theorem run_eql_rcc(w:World)(a b c d a' b' c' d':Rat)(r:Bool)(hr:r=true↔(a=a'∧b=b'∧c=c'∧d=d')):(binOp .eql 47 (cirV a b c d) (cirV a' b' c' d')).run Tryz.prog w=.ok (.bool r) w:=by
 cases r
 ·have hn:=mt hr.2 Bool.false_ne_true
  unfold cirV
  go_simp
  simp only[toL_iff,ite_both]
  intro h1 h2 h3 h4 h5 h6 h7 h8 h9 h10 h11 h12
  exact hn ⟨Qch (by unfold encF; rw[h2,h3,decide_eq_decide.2 h1]),Qch (by unfold encF; rw[h5,h6,decide_eq_decide.2 h4]),Qch (by unfold encF; rw[h8,h9,decide_eq_decide.2 h7]),Qch (by unfold encF; rw[h11,h12,decide_eq_decide.2 h10])⟩
 ·obtain⟨rfl,rfl,rfl,rfl⟩:=hr.1 rfl
  exact run_eql_rc w a b c d
def bC{L:List GF}(x y:AR)(a b c d a' b' c' d':Rat)(r:Bool)(hr:r=true↔(a=a'∧b=b'∧c=c'∧d=d'))(hx:x.gv L=some (cirV a b c d):=by kernel_rfl)(hy:y.gv L=some (cirV a' b' c' d'):=by kernel_rfl):GB Tryz.prog L :=
 gb .eql 47 x y (.lit (.bool r)) (agg_eql (by kernel_rfl) (fun w=>run_eql_rcc w a b c d a' b' c' d' r hr)) hx hy rfl
end Go.Proofs.YtmimficdpfmfgaaGreat
