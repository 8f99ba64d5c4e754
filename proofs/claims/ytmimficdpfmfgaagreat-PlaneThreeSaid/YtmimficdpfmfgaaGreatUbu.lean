/- Laws for the walk. -/
import Derived.Test.YtmimficdpfmfgaaGreatUbi
import Derived.Test.YtmimficdpfmfgaaGreatUbt
set_option linter.unusedVariables false
set_option maxHeartbeats 4000000
set_option maxRecDepth 100000
namespace Go.Proofs.YtmimficdpfmfgaaGreat
open Go.RowKit Tr
def stp(t:Bool)(a b c d:QC)(p:QC×QC×QC×QC):QC×QC×QC×QC :=
 if t then(a*cj p.1+b*cj p.2.2.1,a*cj p.2.1+b*cj p.2.2.2,c*cj p.1+d*cj p.2.2.1,c*cj p.2.1+d*cj p.2.2.2)
 else(a*p.1+b*p.2.2.1,a*p.2.1+b*p.2.2.2,c*p.1+d*p.2.2.1,c*p.2.1+d*p.2.2.2)
def dq(p:QC×QC×QC×QC):QC:=p.1*p.2.2.2 - p.2.1*p.2.2.1
abbrev Q4:=QC×QC×QC×QC
def ZL4(p:Q4)(k:Nat):Prop:=ZL p.1 k∧ZL p.2.1 k∧ZL p.2.2.1 k∧ZL p.2.2.2 k
theorem ZL4.mono{p:Q4}{k l:Nat}(h:ZL4 p k)(hk:k≤l):ZL4 p l:=⟨h.1.mono hk,h.2.1.mono hk,h.2.2.1.mono hk,h.2.2.2.mono hk⟩
def IsW(L W:Nat)(z:QC):Prop:=∃ x y:Int,z.re*(L:Int)=(x:Int)∧z.im*(L:Int)=(y:Int)∧x.natAbs≤W∧y.natAbs≤W
theorem IsW.mul{L W L' W':Nat}{z w:QC}(h:IsW L W z)(k:IsW L' W' w):IsW (L*L') (2*(W*W')) (z*w):=by
 obtain⟨x,y,h1,h2,h3,h4⟩:=h
 obtain⟨u,v,k1,k2,k3,k4⟩:=k
 refine⟨x*u - y*v,x*v+y*u,?_,?_,?_,?_⟩
 ·rw[Int.natCast_mul,Rat.intCast_mul,Rat.intCast_sub,Rat.intCast_mul,Rat.intCast_mul,←h1,←h2,←k1,←k2,qmr]; grind
 ·rw[Int.natCast_mul,Rat.intCast_mul,Rat.intCast_add,Rat.intCast_mul,Rat.intCast_mul,←h1,←h2,←k1,←k2,qmi]; grind
 ·have e1:=Nat.mul_le_mul h3 k3
  have e2:=Nat.mul_le_mul h4 k4
  rw[←Int.natAbs_mul] at e1 e2
  have:=Int.natAbs_sub_le (x*u) (y*v)
  omega
 ·have e1:=Nat.mul_le_mul h3 k4
  have e2:=Nat.mul_le_mul h4 k3
  rw[←Int.natAbs_mul] at e1 e2
  have:=Int.natAbs_add_le (x*v) (y*u)
  omega
theorem IsW.add{L W W':Nat}{z w:QC}(h:IsW L W z)(k:IsW L W' w):IsW L (W+W') (z+w):=by
 obtain⟨x,y,h1,h2,h3,h4⟩:=h
 obtain⟨u,v,k1,k2,k3,k4⟩:=k
 refine⟨x+u,y+v,?_,?_,?_,?_⟩
 ·rw[Rat.intCast_add,←h1,←k1,qar]; grind
 ·rw[Rat.intCast_add,←h2,←k2,qai]; grind
 ·have:=Int.natAbs_add_le x u; omega
 ·have:=Int.natAbs_add_le y v; omega
theorem IsW.cj{L W:Nat}{z:QC}(h:IsW L W z):IsW L W (cj z):=by
 obtain⟨x,y,h1,h2,h3,h4⟩:=h
 refine⟨x,-y,h1,?_,h3,by omega⟩
 rw[Rat.intCast_neg,←h2]; show -z.im*_=_; grind
def W4(L W:Nat)(p:QC×QC×QC×QC):Prop:=IsW L W p.1∧IsW L W p.2.1∧IsW L W p.2.2.1∧IsW L W p.2.2.2
theorem IsW_of{z:QC}{L B D:Nat}(hr:z.re.den ∣ L)(hi:z.im.den ∣ L)(hL:L≤D)(h1:z.re.num.natAbs≤B)(h2:z.im.num.natAbs≤B):IsW L (B*D) z:=by
 obtain⟨u,hu⟩:=hr
 obtain⟨v,hv⟩:=hi
 refine⟨z.re.num*u,z.im.num*v,?_,?_,?_,?_⟩
 ·rw[hu,Int.natCast_mul,Rat.intCast_mul,Rat.intCast_mul,←num_den z.re]; grind
 ·rw[hv,Int.natCast_mul,Rat.intCast_mul,Rat.intCast_mul,←num_den z.im]; grind
 ·rw[Int.natAbs_mul]
  refine Nat.mul_le_mul h1 ?_
  have:=z.re.den_nz
  rw[Int.natAbs_natCast]
  exact Nat.le_trans (Nat.le_mul_of_pos_left u (Nat.pos_of_ne_zero z.re.den_nz)) (by rw[←hu]; exact hL)
 ·rw[Int.natAbs_mul]
  refine Nat.mul_le_mul h2 ?_
  have:=z.im.den_nz
  rw[Int.natAbs_natCast]
  exact Nat.le_trans (Nat.le_mul_of_pos_left v (Nat.pos_of_ne_zero z.im.den_nz)) (by rw[←hv]; exact hL)
theorem wl_m{m n j k:Nat}(h:(Qac m).length≤j)(g:(Qac n).length≤k):(Qac (m*n)).length≤j+k:=Qfb h g
theorem dvd8(a b c d e f g h:Nat):a ∣ a*(b*(c*(d*(e*(f*(g*h))))))∧b ∣ a*(b*(c*(d*(e*(f*(g*h))))))∧c ∣ a*(b*(c*(d*(e*(f*(g*h))))))∧d ∣ a*(b*(c*(d*(e*(f*(g*h))))))∧e ∣ a*(b*(c*(d*(e*(f*(g*h))))))∧f ∣ a*(b*(c*(d*(e*(f*(g*h))))))∧g ∣ a*(b*(c*(d*(e*(f*(g*h))))))∧h ∣ a*(b*(c*(d*(e*(f*(g*h)))))):=by
 have l:∀{x y z:Nat},x ∣ y→x ∣ z*y:=fun h=>Nat.dvd_trans h (Nat.dvd_mul_left _ _)
 have o:∀ x y:Nat,x ∣ x*y:=fun x y=>Nat.dvd_mul_right x y
 exact⟨o _ _,l (o _ _),l (l (o _ _)),l (l (l (o _ _))),l (l (l (l (o _ _)))),l (l (l (l (l (o _ _))))),l (l (l (l (l (l (o _ _)))))),l (l (l (l (l (l (l (Nat.dvd_refl _)))))))⟩
theorem big_of(k:Nat):∃ B,(Qac B).length≤k+1∧∀ n,(Qac n).length≤k→n≤B :=
 ⟨4294967296 ^ k,Qaj (Nat.pow_lt_pow_right (by decide) (by omega)),fun n h=>Nat.le_of_lt (Nat.lt_of_lt_of_le (Qbz n) (Nat.pow_le_pow_right (by decide) h))⟩
def q1:Q4:=(⟨1,0⟩,⟨0,0⟩,⟨0,0⟩,⟨1,0⟩)
def mul4(x y:Q4):Q4:=stp false x.1 x.2.1 x.2.2.1 x.2.2.2 y
def adj4(b:Q4):Q4:=(b.2.2.2,⟨0,0⟩ - b.2.1,⟨0,0⟩ - b.2.2.1,b.1)
def W1(b m:Q4):Q4:=mul4 m (adj4 b)
def W2(b m:Q4):Q4:=mul4 b (W1 b m)
section
variable{b m:Q4}(hb:dq b≠⟨0,0⟩)(hm:dq m≠⟨0,0⟩)
end
theorem W4_ofk{a b c d:QC}{k:Nat}(ha:ZL a k)(hb:ZL b k)(hc:ZL c k)(hd:ZL d k):∃ L W,L≠0∧(Qac L).length≤8*k∧(Qac W).length≤9*k+1∧W4 L W (a,b,c,d):=by
 obtain⟨L,hL⟩:∃ L,L=a.re.den*(a.im.den*(b.re.den*(b.im.den*(c.re.den*(c.im.den*(d.re.den*d.im.den)))))):=⟨_,rfl⟩
 obtain⟨d1,d2,d3,d4,d5,d6,d7,d8⟩:=dvd8 a.re.den a.im.den b.re.den b.im.den c.re.den c.im.den d.re.den d.im.den
 rw[←hL] at d1 d2 d3 d4 d5 d6 d7 d8
 have hl:(Qac L).length≤8*k:=by
  rw[hL]
  exact Nat.le_trans (wl_m ha.1.2 (wl_m ha.2.2 (wl_m hb.1.2 (wl_m hb.2.2 (wl_m hc.1.2 (wl_m hc.2.2 (wl_m hd.1.2 hd.2.2))))))) (by omega)
 have h0:L≠0:=by
  have:=a.re.den_nz; have:=a.im.den_nz; have:=b.re.den_nz; have:=b.im.den_nz; have:=c.re.den_nz; have:=c.im.den_nz; have:=d.re.den_nz; have:=d.im.den_nz
  rw[hL]
  simp only[Nat.mul_ne_zero_iff]
  exact⟨by assumption,by assumption,by assumption,by assumption,by assumption,by assumption,by assumption,by assumption⟩
 obtain⟨B,hB1,hB2⟩:=big_of k
 have hB:∀{q:Rat},RL q k→q.num.natAbs≤B:=fun h=>hB2 _ h.1
 refine⟨L,B*L,h0,hl,Nat.le_trans (wl_m hB1 hl) (by omega),?_⟩
 exact⟨IsW_of d1 d2 (Nat.le_refl _) (hB ha.1) (hB ha.2),IsW_of d3 d4 (Nat.le_refl _) (hB hb.1) (hB hb.2),IsW_of d5 d6 (Nat.le_refl _) (hB hc.1) (hB hc.2),IsW_of d7 d8 (Nat.le_refl _) (hB hd.1) (hB hd.2)⟩
theorem IsW.sub{L W W':Nat}{z w:QC}(h:IsW L W z)(k:IsW L W' w):IsW L (W+W') (z - w):=by
 obtain⟨x,y,h1,h2,h3,h4⟩:=h
 obtain⟨u,v,k1,k2,k3,k4⟩:=k
 refine⟨x - u,y - v,?_,?_,?_,?_⟩
 ·rw[Rat.intCast_sub,←h1,←k1,qsr]; grind
 ·rw[Rat.intCast_sub,←h2,←k2,qsi]; grind
 ·have:=Int.natAbs_sub_le x u; omega
 ·have:=Int.natAbs_sub_le y v; omega
theorem IsW.mono{L W W':Nat}{z:QC}(h:IsW L W z)(k:W≤W'):IsW L W' z:=by
 obtain⟨x,y,h1,h2,h3,h4⟩:=h
 exact⟨x,y,h1,h2,by omega,by omega⟩
end Go.Proofs.YtmimficdpfmfgaaGreat
namespace Go.Proofs.YtmimficdpfmfgaaGreat
open Go.RowKit Tr
theorem ZL4.w{p:Q4}{k:Nat}(h:ZL4 p k):∃ L W,L≠0∧(Qac L).length≤8*k∧(Qac W).length≤9*k+1∧W4 L W p:=by
 obtain⟨a,b,c,d⟩:=p
 exact W4_ofk h.1 h.2.1 h.2.2.1 h.2.2.2
open Classical
def hm4(z:QC):Q4:=((⟨1,0⟩:QC),(⟨0,0⟩:QC) - z,(⟨0,0⟩:QC) - cj z,(⟨1,0⟩:QC))
end Go.Proofs.YtmimficdpfmfgaaGreat
set_option linter.unusedSimpArgs false
namespace Go.Proofs.YtmimficdpfmfgaaGreat
open Go.RowKit Tr
open Classical
theorem hmn(z:QC):hm4 z=((⟨1,0⟩:QC),ng z,ng (cj z),(⟨1,0⟩:QC)):=by unfold hm4; rw[←ng_eq,←ng_eq]
end Go.Proofs.YtmimficdpfmfgaaGreat
set_option linter.unusedSimpArgs false
namespace Go.Proofs.YtmimficdpfmfgaaGreat
open Go.RowKit Tr
open Classical
end Go.Proofs.YtmimficdpfmfgaaGreat
set_option linter.unusedSimpArgs false
namespace Go.Proofs.YtmimficdpfmfgaaGreat
open Go.RowKit Tr
open Classical
theorem leastk{p:Nat→Prop}{n:Nat}(h:∃ k,k<n∧p k):∃ k,k<n∧p k∧∀ j,j<k→¬p j:=by
 obtain⟨k,hk,hp⟩:=h
 induction k using Nat.strongRecOn with
 | ind k ih =>
  by_cases hj:∃ j,j<k∧p j
  ·obtain⟨j,h1,h2⟩:=hj; exact ih j h1 (by omega) h2
  ·exact⟨k,hk,hp,fun j h1 h2=>hj ⟨j,h1,h2⟩⟩
def gtk{P:Program}{L:List GF}(t:TypeId)(x y:AC)(a b:Int)(r:Bool)(h:r=true↔a>b)(hx:x.gv L=some (.int .i64 a):=by kernel_rfl)(hy:y.gv L=some (.int .i64 b):=by kernel_rfl):GB P L :=
 gbInt .gtr t .i64 x y a b r (by simp only[Qdn]; congr 1; rw[Bool.eq_iff_iff,h,decide_eq_true_eq]) hx hy
noncomputable def rNk(p:Nat→Prop)(n k:Nat):Bool:=if k<n then false else if k=n then true else @decide (p k) (Classical.propDecidable _)
theorem rNk_ok{p:Nat→Prop}{n:Nat}(h:∀ k,k<n→¬p k)(hn:p n)(k:Nat):rNk p n k=true↔p k:=by
 unfold rNk
 split
 ·rename_i h1; exact⟨(fun e=>by cases e),fun e=>absurd e (h k h1)⟩
 ·split
  ·rename_i h1; subst h1; exact⟨fun _=>hn,fun _=>rfl⟩
  ·simp
end Go.Proofs.YtmimficdpfmfgaaGreat
