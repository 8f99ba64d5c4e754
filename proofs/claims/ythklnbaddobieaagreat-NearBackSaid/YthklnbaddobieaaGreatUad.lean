/- Laws for the walk. -/
import Derived.Test.YthklnbaddobieaaGreatUac
set_option linter.unusedVariables false
set_option maxHeartbeats 4000000
namespace Tr
open Ieee
def NearB(Y:Rat)(B:Nat):Prop:=∃ L k:Nat,Nf L k∧((k*2 ^ L:Nat):Rat)≤Y∧Y<(((k+1)*2 ^ L:Nat):Rat) ∧
  ((B=Bt L k∧(2*Y<(((2*k+1)*2 ^ L:Nat):Rat)∨(2*Y=(((2*k+1)*2 ^ L:Nat):Rat)∧k % 2=0))) ∨
   (B=Bt L k+1∧((((2*k+1)*2 ^ L:Nat):Rat)<2*Y∨(2*Y=(((2*k+1)*2 ^ L:Nat):Rat)∧k % 2=1))))
theorem nearB_fun{Y:Rat}{B C:Nat}(hB:NearB Y B)(hC:NearB Y C):B=C:=by
 obtain⟨L,k,n1,a1,a2,a3⟩:=hB
 obtain⟨L',k',n2,b1,b2,b3⟩:=hC
 have e:=below_is (Y:=Y) (b:=Bt L' k') n1 (by rw[VV_bt n2]; exact b1) (by rw[VV_succ n2]; exact b2) a1 a2
 have e1:VV (Bt L k)=VV (Bt L' k'):=by rw[e]
 have e2:VV (Bt L k+1)=VV (Bt L' k'+1):=by rw[e]
 rw[VV_bt n1,VV_bt n2] at e1
 rw[VV_succ n1,VV_succ n2] at e2
 have eL:2 ^ L=2 ^ L':=by
  have h1:(k+1)*2 ^ L=k*2 ^ L+2 ^ L:=Nat.succ_mul ..
  have h2:(k'+1)*2 ^ L'=k'*2 ^ L'+2 ^ L':=Nat.succ_mul ..
  omega
 have ek:k=k':=by
  rw[←eL] at e1
  exact Nat.mul_right_cancel (Nat.two_pow_pos L) e1
 subst ek
 rw[←eL] at b3
 rw[e] at b3
 rcases a3 with⟨c1,c2⟩|⟨c1,c2⟩<;>rcases b3 with⟨d1,d2⟩|⟨d1,d2⟩
 ·rw[c1,d1]
 ·exfalso
  generalize (((2*k+1)*2 ^ L:Nat):Rat)=z at *
  rcases c2 with c2|⟨c2,c3⟩<;>rcases d2 with d2|⟨d2,d3⟩<;>first|grind|omega
 ·exfalso
  generalize (((2*k+1)*2 ^ L:Nat):Rat)=z at *
  rcases c2 with c2|⟨c2,c3⟩<;>rcases d2 with d2|⟨d2,d3⟩<;>first|grind|omega
 ·rw[c1,d1]
theorem p2s(n:Nat):(2:Nat) ^ (n+1)=2 ^ n*2:=Nat.pow_succ ..
theorem p4(n:Nat):(2:Nat) ^ (n+2)=2 ^ n*4:=by rw[Nat.pow_succ,Nat.pow_succ,Nat.mul_assoc]
def U44:Nat:=2044
theorem U44_eq:U44=2044:=rfl
def thrN:Nat:=18014398509481983*2 ^ U44
theorem nearB_inf{Y:Rat}{B:Nat}(h:NearB Y B):B<9218868437227405312↔Y<(thrN:Rat):=by
 obtain⟨L,k,n1,a1,a2,a3⟩:=h
 have hk:=n1.1
 constructor
 ·intro hB
  by_cases c:(k+1)*2 ^ L≤thrN
  ·exact rlt_le a2 (by exact_mod_cast c)
  ·-- the greatest float: it is not rounded up
   have hL:L≤2045:=by
    rcases n1.2 with h2|h2
    ·omega
    ·rcases a3 with⟨c1,_⟩|⟨c1,_⟩<;>(unfold Bt at c1; omega)
   have hL2:L=2045:=by
    rcases Nat.lt_or_ge L 2045 with h3|h3
    ·exfalso; apply c
     have e1:(k+1)*2 ^ L≤9007199254740992*2 ^ U44:=Nat.mul_le_mul (by omega) (Nat.pow_le_pow_right (by decide) (by rw[U44_eq]; omega))
     exact Nat.le_trans e1 (Nat.mul_le_mul_right _ (by decide))
    ·omega
   have p2:(2:Nat) ^ L=2 ^ U44*2:=by rw[show L=U44+1 from hL2,p2s U44]
   have hk2:k=9007199254740991:=by
    rcases Nat.lt_or_ge k 9007199254740991 with h3|h3
    ·exfalso; apply c
     rw[p2]; unfold thrN
     generalize (2:Nat) ^ U44=P
     have:(k+1)*(P*2)=(2*(k+1))*P:=by rw[Nat.mul_comm P 2,←Nat.mul_assoc,Nat.mul_comm (k+1) 2]
     rw[this]
     exact Nat.mul_le_mul_right _ (by omega)
    ·omega
   subst hk2
   have e2:(2*9007199254740991+1)*2 ^ L=2*thrN:=by
    rw[p2]; unfold thrN
    generalize (2:Nat) ^ U44=P
    omega
   rw[e2] at a3
   rcases a3 with⟨c1,c2⟩|⟨c1,c2⟩
   ·rcases c2 with c2|⟨_,c3⟩
    ·have:((2*thrN:Nat):Rat)=2*(thrN:Rat):=by push_cast; rfl
     rw[this] at c2
     generalize (thrN:Rat)=t at *
     grind
    ·exact absurd c3 (by decide)
   ·exfalso; unfold Bt at c1; omega
 ·intro hY
  rcases Nat.lt_or_ge B 9218868437227405312 with hB|hB
  ·exact hB
  ·exfalso
   have hBt:9218868437227405311≤Bt L k:=by rcases a3 with⟨c1,_⟩|⟨c1,_⟩<;>omega
   by_cases c:thrN≤k*2 ^ L
   ·exact absurd (rle_lt (Rat.le_trans (show(thrN:Rat)≤((k*2 ^ L:Nat):Rat) by exact_mod_cast c) a1) hY) Rat.lt_irrefl
   ·have hk5:4503599627370496≤k:=by
     rcases n1.2 with h2|h2
     ·unfold Bt at hBt; omega
     ·exact h2
    have hL2:L=2045:=by
     rcases Nat.lt_or_ge L 2045 with h3|h3
     ·unfold Bt at hBt; omega
     ·rcases Nat.lt_or_ge 2045 L with h4|h4
      ·exfalso; apply c
       have e1:4503599627370496*2 ^ (U44+2)≤k*2 ^ L:=Nat.mul_le_mul hk5 (Nat.pow_le_pow_right (by decide) (by rw[U44_eq]; omega))
       refine Nat.le_trans ?_ e1
       rw[p4 U44]
       unfold thrN
       generalize (2:Nat) ^ U44=P
       omega
      ·omega
    have hk2:k=9007199254740991:=by unfold Bt at hBt; omega
    subst hk2
    have p2:(2:Nat) ^ L=2 ^ U44*2:=by rw[show L=U44+1 from hL2,p2s U44]
    have e2:(2*9007199254740991+1)*2 ^ L=2*thrN:=by
     rw[p2]; unfold thrN
     generalize (2:Nat) ^ U44=P
     omega
    rw[e2] at a3
    have e3:((2*thrN:Nat):Rat)=2*(thrN:Rat):=by push_cast; rfl
    rw[e3] at a3
    rcases a3 with⟨c1,_⟩|⟨c1,c2⟩
    ·unfold Bt at c1; omega
    ·generalize (thrN:Rat)=t at *
     rcases c2 with c2|⟨c2,_⟩<;>grind
theorem near_shift{N D q r low L k rest:Nat}{c Y:Rat}(hD:0<D)(hq:N=q*D+r)(hr:r<D)(hc:0<c)(hY:Y=(N:Rat) / (D:Rat)*c)(hL:((2 ^ L:Nat):Rat)=((2 ^ low:Nat):Rat)*c)
  (hk:q=k*2 ^ low+rest) (hrest:rest<2 ^ low) (hlow:0<low) (hN:Nf L k) :
  NearB Y (if 2 ^ (low - 1)<rest∨(rest=2 ^ (low - 1)∧(r≠0∨k % 2=1)) then Bt L k+1 else Bt L k):=by
 have hD':(0:Rat)<(D:Rat):=by exact_mod_cast hD
 have hX:(N:Rat) / (D:Rat)=(q:Rat)+(r:Rat) / (D:Rat):=by
  rw[hq]; push_cast
  have:(D:Rat)≠0:=Rat.ne_of_gt hD'
  grind
 have hr1:(0:Rat)≤(r:Rat) / (D:Rat):=by
  rw[Rat.div_def]; exact Rat.mul_nonneg (by exact_mod_cast Nat.zero_le r) (Rat.le_of_lt (Rat.inv_pos.2 hD'))
 have hr2:(r:Rat) / (D:Rat)<1:=by
  rw[Rat.div_lt_iff hD']; rw[Rat.one_mul]; exact_mod_cast hr
 have hr0:r=0↔(r:Rat) / (D:Rat)=0:=by
  constructor
  ·rintro rfl; simp[Rat.div_def]
  ·intro h
   have:(r:Rat)=0:=by
    have hne:(D:Rat)≠0:=Rat.ne_of_gt hD'
    grind
   exact_mod_cast this
 generalize hx:(r:Rat) / (D:Rat)=x at *
 have hp:(2:Nat) ^ low=2*2 ^ (low - 1):=by
  obtain⟨m,rfl⟩:∃ m,low=m+1:=⟨low - 1,by omega⟩
  rw[Nat.add_sub_cancel,Nat.pow_succ,Nat.mul_comm]
 have eq0:(q:Rat)=(k:Rat)*((2 ^ low:Nat):Rat)+(rest:Rat):=by rw[hk]; push_cast; rfl
 have hrest':(rest:Rat)+1≤((2 ^ low:Nat):Rat):=by exact_mod_cast hrest
 have ePL:((2 ^ low:Nat):Rat)=2*((2 ^ (low - 1):Nat):Rat):=by rw[hp]; push_cast; rfl
 have m1:∀ a:Nat,((a*2 ^ L:Nat):Rat)=(a:Rat)*((2 ^ low:Nat):Rat)*c:=fun a=>by
  rw[Rat.mul_assoc,←hL]; push_cast; rfl
 have hYX:Y=((q:Rat)+x)*c:=by rw[hY,hX]
 generalize ((2 ^ low:Nat):Rat)=P at *
 generalize hH:((2 ^ (low - 1):Nat):Rat)=H at *
 have mono:∀ a b:Rat,a<b→a*c<b*c:=fun a b h=>Rat.mul_lt_mul_of_pos_right h hc
 have monole:∀ a b:Rat,a≤b→a*c≤b*c:=fun a b h=>Rat.mul_le_mul_of_nonneg_right h (Rat.le_of_lt hc)
 have hrest0:(0:Rat)≤(rest:Rat):=by exact_mod_cast Nat.zero_le rest
 refine⟨L,k,hN,?_,?_,?_⟩
 ·rw[m1,hYX]; apply monole; rw[eq0]; grind
 ·rw[m1,hYX]; apply mono; rw[eq0]; push_cast; grind
 ·have e2:2*Y=(2*((q:Rat)+x))*c:=by rw[hYX,Rat.mul_assoc]
  rw[m1,e2]
  have ek:(((2*k+1:Nat)):Rat)=2*(k:Rat)+1:=by push_cast; rfl
  rw[ek]
  split
  ·rename_i h
   refine .inr ⟨rfl,?_⟩
   rcases h with h|⟨h,h'⟩
   ·have h1:H+1≤(rest:Rat):=by rw[←hH]; exact_mod_cast h
    exact .inl (mono _ _ (by rw[eq0]; grind))
   ·have h1:(rest:Rat)=H:=by rw[←hH,h]
    by_cases r0:r=0
    ·have x0:=hr0.1 r0
     rcases h' with h'|h'
     ·exact absurd r0 h'
     ·exact .inr ⟨by rw[eq0,x0,h1,ePL]; grind,h'⟩
    ·have x0:x≠0:=fun k=>r0 (hr0.2 k)
     have x1:0<x:=by grind
     exact .inl (mono _ _ (by rw[eq0,h1,ePL]; grind))
  ·rename_i h
   refine .inl ⟨rfl,?_⟩
   rcases Nat.lt_trichotomy rest (2 ^ (low - 1)) with c1|c1|c1
   ·have h1:(rest:Rat)+1≤H:=by rw[←hH]; exact_mod_cast c1
    exact .inl (mono _ _ (by rw[eq0]; grind))
   ·have r0:r=0:=Classical.byContradiction fun k=>h (.inr ⟨c1,.inl k⟩)
    have k0:k % 2=0:=by
     rcases Nat.mod_two_eq_zero_or_one k with k0|k0
     ·exact k0
     ·exact absurd (.inr ⟨c1,.inr k0⟩) h
    have h1:(rest:Rat)=H:=by rw[←hH,c1]
    exact .inr ⟨by rw[eq0,hr0.1 r0,h1,ePL]; grind,k0⟩
   ·exact absurd (.inl c1) h
end Tr
namespace Tr
open Ieee
def f64N(n:Nat)(up:Int):Nat:=if 0≤up then n*2 ^ up.toNat else n
def f64D(d:Nat)(up:Int):Nat:=if 0≤up then d else d*2 ^ (-up).toNat
def f64c(up:Int):Rat:=if 0≤up then((2 ^ UU:Nat):Rat) / ((2 ^ up.toNat:Nat):Rat) else((2 ^ (UU+(-up).toNat):Nat):Rat)
def unitsQ(n d:Nat):Rat:=(n:Rat) / (d:Rat)*((2 ^ UU:Nat):Rat)
theorem two_pos(k:Nat):(0:Rat)<((2 ^ k:Nat):Rat):=by exact_mod_cast Nat.two_pow_pos k
theorem f64c_pos(up:Int):0<f64c up:=by
 unfold f64c
 split
 ·rw[Rat.div_def]; exact Rat.mul_pos (two_pos _) (Rat.inv_pos.2 (two_pos _))
 ·exact two_pos _
theorem two_add(a b:Nat):((2 ^ (a+b):Nat):Rat)=((2 ^ a:Nat):Rat)*((2 ^ b:Nat):Rat):=by
 rw[Nat.pow_add]; exact Rat.natCast_mul ..
theorem f64_Y{n d:Nat}(up:Int)(hd:0<d):unitsQ n d=(f64N n up:Rat) / (f64D d up:Rat)*f64c up:=by
 unfold unitsQ f64N f64D f64c
 have hd':(d:Rat)≠0:=Rat.ne_of_gt (by exact_mod_cast hd)
 by_cases h:0≤up
 ·rw[if_pos h,if_pos h,if_pos h]
  have hp:=Rat.ne_of_gt (two_pos up.toNat)
  rw[Rat.natCast_mul]
  generalize ((2 ^ up.toNat:Nat):Rat)=p at *
  generalize ((2 ^ UU:Nat):Rat)=u at *
  grind
 ·rw[if_neg h,if_neg h,if_neg h,two_add]
  have hp:=Rat.ne_of_gt (two_pos (-up).toNat)
  rw[Rat.natCast_mul]
  generalize ((2 ^ (-up).toNat:Nat):Rat)=p at *
  generalize ((2 ^ UU:Nat):Rat)=u at *
  grind
theorem f64c_L{up:Int}{low L:Nat}(h:(L:Int)+up=low+UU):((2 ^ L:Nat):Rat)=((2 ^ low:Nat):Rat)*f64c up:=by
 unfold f64c
 by_cases k:0≤up
 ·rw[if_pos k]
  have e:L+up.toNat=low+UU:=by omega
  have e2:=two_add L up.toNat
  rw[e,two_add] at e2
  have hp:=Rat.ne_of_gt (two_pos up.toNat)
  generalize ((2 ^ up.toNat:Nat):Rat)=p at *
  generalize ((2 ^ UU:Nat):Rat)=u at *
  generalize ((2 ^ L:Nat):Rat)=l at *
  generalize ((2 ^ low:Nat):Rat)=w at *
  grind
 ·rw[if_neg k,←two_add]
  have e:L=low+(UU+(-up).toNat):=by omega
  rw[e]
theorem f64_q{n d bn bd:Nat}{up:Int}(n1:n<2 ^ bn)(n2:2 ^ (bn - 1)≤n)(hbn:0<bn)(d1:d<2 ^ bd)(d2:2 ^ (bd - 1)≤d)(hbd:0<bd)(hup:up=66 - (bn:Int)+bd) :
  0<f64D d up∧36893488147419103232≤f64N n up / f64D d up∧f64N n up / f64D d up<147573952589676412928:=by
 have hd:0<d:=Nat.lt_of_lt_of_le (Nat.two_pow_pos _) d2
 have p65:(36893488147419103232:Nat)=2 ^ 65:=by decide
 have p67:(147573952589676412928:Nat)=2 ^ 67:=by decide
 unfold f64N f64D
 by_cases h:0≤up
 ·rw[if_pos h,if_pos h]
  refine⟨hd,?_,?_⟩
  ·rw[Nat.le_div_iff_mul_le hd,p65]
   have e1:2 ^ 65*2 ^ bd=2 ^ (bn - 1)*2 ^ up.toNat:=by rw[←Nat.pow_add,←Nat.pow_add]; congr 1; omega
   have e2:2 ^ 65*d≤2 ^ 65*2 ^ bd:=Nat.mul_le_mul_left _ (Nat.le_of_lt d1)
   have e3:2 ^ (bn - 1)*2 ^ up.toNat≤n*2 ^ up.toNat:=Nat.mul_le_mul_right _ n2
   omega
  ·rw[Nat.div_lt_iff_lt_mul hd,p67]
   have e1:2 ^ bn*2 ^ up.toNat=2 ^ 67*2 ^ (bd - 1):=by rw[←Nat.pow_add,←Nat.pow_add]; congr 1; omega
   have e2:2 ^ 67*2 ^ (bd - 1)≤2 ^ 67*d:=Nat.mul_le_mul_left _ d2
   have e3:n*2 ^ up.toNat<2 ^ bn*2 ^ up.toNat:=Nat.mul_lt_mul_of_pos_right n1 (Nat.two_pow_pos _)
   omega
 ·rw[if_neg h,if_neg h]
  have hD:0<d*2 ^ (-up).toNat:=Nat.mul_pos hd (Nat.two_pow_pos _)
  refine⟨hD,?_,?_⟩
  ·rw[Nat.le_div_iff_mul_le hD,p65]
   have e1:2 ^ 65*(2 ^ bd*2 ^ (-up).toNat)=2 ^ (bn - 1):=by rw[←Nat.pow_add,←Nat.pow_add]; congr 1; omega
   have e2:2 ^ 65*(d*2 ^ (-up).toNat)≤2 ^ 65*(2 ^ bd*2 ^ (-up).toNat):=Nat.mul_le_mul_left _ (Nat.mul_le_mul_right _ (Nat.le_of_lt d1))
   omega
  ·rw[Nat.div_lt_iff_lt_mul hD,p67]
   have e1:2 ^ bn=2 ^ 67*(2 ^ (bd - 1)*2 ^ (-up).toNat):=by rw[←Nat.pow_add,←Nat.pow_add]; congr 1; omega
   have e2:2 ^ 67*(2 ^ (bd - 1)*2 ^ (-up).toNat)≤2 ^ 67*(d*2 ^ (-up).toNat):=Nat.mul_le_mul_left _ (Nat.mul_le_mul_right _ d2)
   omega
theorem bits_67{q Q:Nat}(h1:36893488147419103232≤q)(h2:q<147573952589676412928)(q1:q<2 ^ Q)(q2:2 ^ (Q - 1)≤q):Q=66∨Q=67:=by
 have a:65<Q:=by
  rcases Nat.lt_or_ge 65 Q with h|h
  ·exact h
  ·have:=Nat.pow_le_pow_right (show 0<2 by decide) h
   rw[show(2:Nat) ^ 65=36893488147419103232 by decide] at this
   omega
 have b:Q - 1<67:=by
  rcases Nat.lt_or_ge (Q - 1) 67 with h|h
  ·exact h
  ·have:=Nat.pow_le_pow_right (show 0<2 by decide) h
   rw[show(2:Nat) ^ 67=147573952589676412928 by decide] at this
   omega
 omega
theorem f64_near{n d q r Q low k rest:Nat}{up:Int}(hD:0<f64D d up)(hd:0<d)(hN:f64N n up=q*f64D d up+r)(hr:r<f64D d up)(hQ:Q=66∨Q=67)(q1:q<2 ^ Q)(q2:2 ^ (Q - 1)≤q)
  (hk:q=k*2 ^ low+rest) (hrest:rest<2 ^ low)
  (hlow:((low:Int)=Q - 53∧up - 1074≤Q - 53)∨((low:Int)=up - 1074∧(Q:Int) - 53<up - 1074∧up - 1074≤Q+1)∨(low=Q+1∧(Q:Int)+1<up - 1074)) :
  ∃ B,NearB (unitsQ n d) B∧(∀ m,m=(if 2 ^ (low - 1)<rest∨(rest=2 ^ (low - 1)∧(r≠0∨k % 2=1)) then k+1 else k)→m≤9007199254740992∧((m=0∧B=0)∨(0<m∧-1074≤(low:Int) - up∧VV B=m*2 ^ ((low:Int) - up+1074).toNat))):=by
 have hY:=f64_Y (n:=n) up hd
 have hc:=f64c_pos up
 have go:∀ L:Nat,(L:Int)+up=low+UU→Nf L k→0<low→∃ B,NearB (unitsQ n d) B∧(∀ m,m=(if 2 ^ (low - 1)<rest∨(rest=2 ^ (low - 1)∧(r≠0∨k % 2=1)) then k+1 else k)→m≤9007199254740992∧((m=0∧B=0)∨(0<m∧-1074≤(low:Int) - up∧VV B=m*2 ^ ((low:Int) - up+1074).toNat))):=by
  intro L hL hNf hl
  have eL:((low:Int) - up+1074).toNat=L:=by rw[UU_eq] at hL; omega
  refine⟨_,near_shift hD hN hr hc hY (f64c_L hL) hk hrest hl hNf,?_⟩
  intro m hm
  have hk53:=hNf.1
  rw[eL]
  split at hm
  ·rename_i h
   rw[if_pos h]
   refine⟨by omega,.inr ⟨by omega,by rw[UU_eq] at hL; omega,?_⟩⟩
   rw[VV_succ hNf,hm]
  ·rename_i h
   rw[if_neg h]
   refine⟨by omega,?_⟩
   rcases Nat.eq_zero_or_pos k with h0|h0
   ·left
    refine⟨by omega,?_⟩
    rcases hNf.2 with h2|h2
    ·subst h2; subst h0; rfl
    ·omega
   ·right
    refine⟨by omega,by rw[UU_eq] at hL; omega,?_⟩
    rw[VV_bt hNf,hm]
 have two (a b:Nat) (h:a≤b):(2:Nat) ^ b=2 ^ (b - a)*2 ^ a:=by rw[←Nat.pow_add]; congr 1; omega
 rcases hlow with⟨l1,l2⟩|⟨l1,l2,l3⟩|⟨l1,l2⟩
 ·refine go (((low:Int)+1074 - up).toNat) (by rw[UU_eq]; omega) ⟨?_,.inr ?_⟩ (by omega)
  ·have e:=two low Q (by omega)
   have e3:(2:Nat) ^ (Q - low)=9007199254740992:=by rw[show Q - low=53 by omega]
   rw[e3] at e
   rcases Nat.lt_or_ge k 9007199254740992 with h|h
   ·exact h
   ·have:=Nat.mul_le_mul_right (2 ^ low) h; omega
  ·have e:=two low (Q - 1) (by omega)
   have e3:(2:Nat) ^ (Q - 1 - low)=4503599627370496:=by rw[show Q - 1 - low=52 by omega]
   rw[e3] at e
   rcases Nat.lt_or_ge k 4503599627370496 with h|h
   ·have h4:=Nat.mul_le_mul_right (2 ^ low) (show k+1≤4503599627370496 by omega)
    rw[Nat.add_mul] at h4
    omega
   ·exact h
 ·refine go 0 (by rw[UU_eq]; omega) ⟨?_,.inl rfl⟩ (by omega)
  rcases Nat.lt_or_ge k 9007199254740992 with h|h
  ·exact h
  ·exfalso
   have h5:=Nat.mul_le_mul_right (2 ^ low) h
   have h6:(2:Nat) ^ Q≤9007199254740992*2 ^ low:=by
    rw[show(9007199254740992:Nat)=2 ^ 53 by decide,←Nat.pow_add]
    exact Nat.pow_le_pow_right (by decide) (by omega)
   omega
 ·-- far below the least float
  have hq:q<2 ^ (low - 1):=by rw[l1]; simpa using q1
  have hk0:k=0:=by
   rcases Nat.eq_zero_or_pos k with h|h
   ·exact h
   ·exfalso
    have h5:=Nat.mul_le_mul_right (2 ^ low) h
    have h6:(2:Nat) ^ (low - 1)≤2 ^ low:=Nat.pow_le_pow_right (by decide) (by omega)
    omega
  have hrq:rest=q:=by rw[hk,hk0]; omega
  have hD':(0:Rat)<(f64D d up:Rat):=by exact_mod_cast hD
  have hX:(f64N n up:Rat) / (f64D d up:Rat)<((2 ^ (low - 1):Nat):Rat):=by
   rw[Rat.div_lt_iff hD']
   have h5:f64N n up<2 ^ (low - 1)*f64D d up:=by
    have:=Nat.mul_le_mul_right (f64D d up) (show q+1≤2 ^ (low - 1) from hq)
    rw[Nat.add_mul] at this
    omega
   have:((f64N n up:Nat):Rat)<((2 ^ (low - 1)*f64D d up:Nat):Rat):=by exact_mod_cast h5
   rw[Rat.natCast_mul] at this
   exact this
  have hX0:0≤(f64N n up:Rat) / (f64D d up:Rat):=by
   rw[Rat.div_def]; exact Rat.mul_nonneg (by exact_mod_cast Nat.zero_le _) (Rat.le_of_lt (Rat.inv_pos.2 hD'))
  have hPc:((2 ^ (low - 1):Nat):Rat)*f64c up*4≤1:=by
   unfold f64c
   rw[if_pos (by omega)]
   have hp:=two_pos up.toNat
   have e1:2 ^ (low - 1)*2 ^ UU*4≤2 ^ up.toNat:=by
    rw[show(4:Nat)=2 ^ 2 by decide,←Nat.pow_add,←Nat.pow_add]
    exact Nat.pow_le_pow_right (by decide) (by rw[UU_eq]; omega)
   have e2:((2 ^ (low - 1):Nat):Rat)*((2 ^ UU:Nat):Rat)*4≤((2 ^ up.toNat:Nat):Rat):=by
    have:((2 ^ (low - 1)*2 ^ UU*4:Nat):Rat)≤((2 ^ up.toNat:Nat):Rat):=by exact_mod_cast e1
    rw[Rat.natCast_mul,Rat.natCast_mul] at this
    exact this
   generalize ((2 ^ up.toNat:Nat):Rat)=p at *
   generalize ((2 ^ UU:Nat):Rat)=u at *
   generalize ((2 ^ (low - 1):Nat):Rat)=w at *
   have e3:w*(u / p)*4=(w*u*4) / p:=by grind
   rw[e3]
   refine Rat.not_lt.1 (fun h=>?_)
   rw[Rat.lt_div_iff hp,Rat.one_mul] at h
   exact absurd (rlt_le h e2) Rat.lt_irrefl
  have hY4:unitsQ n d*4<1:=by
   rw[hY]
   have:=Rat.mul_lt_mul_of_pos_right hX hc
   generalize (f64N n up:Rat) / (f64D d up:Rat)*f64c up=a at *
   generalize ((2 ^ (low - 1):Nat):Rat)*f64c up=b at *
   grind
  have hY0:0≤unitsQ n d:=by rw[hY]; exact Rat.mul_nonneg hX0 (Rat.le_of_lt hc)
  generalize unitsQ n d=Y at *
  refine⟨0,⟨0,0,⟨by decide,.inl rfl⟩,?_,?_,.inl ⟨rfl,.inl ?_⟩⟩,?_⟩
  ·simpa using hY0
  ·simp; grind
  ·simp; grind
  ·intro m hm
   have hc1:¬(2 ^ (low - 1)<rest∨(rest=2 ^ (low - 1)∧(r≠0∨k % 2=1))):=by
    rw[hrq]; omega
   rw[if_neg hc1,hk0] at hm
   exact⟨by omega,.inl ⟨hm,rfl⟩⟩
end Tr
namespace Tr
open Ieee
def GW:Nat:=9218868437227405311
theorem VV_G1:VV (GW+1)=4*(4503599627370496*2 ^ U44):=by
 have h:GW+1=Bt (U44+2) 4503599627370496:=by unfold GW Bt; rw[U44_eq]
 rw[h,VV_bt ⟨by decide,.inr (by decide)⟩,p4 U44]; generalize (2:Nat) ^ U44=P; omega
theorem thr_G1:thrN≤VV (GW+1):=by
 rw[VV_G1]; unfold thrN; generalize (2:Nat) ^ U44=P; omega
theorem doc_near{Y:Rat}{b:Nat}(hY:Y<(thrN:Rat))(hb:b≤GW)(h1:(VV b:Rat)≤Y)(h2:b<GW→Y<(VV (b+1):Rat)) :
  NearB Y (if(VV (b+1):Rat) - Y<Y - (VV b:Rat)∨((VV (b+1):Rat) - Y=Y - (VV b:Rat)∧b % 2=1) then b+1 else b):=by
 have h3:Y<(VV (b+1):Rat):=by
  rcases Nat.lt_or_ge b GW with c|c
  ·exact h2 c
  ·have e:b=GW:=by omega
   rw[e]; exact rlt_le hY (by exact_mod_cast thr_G1)
 obtain⟨L,k,hN,e⟩:=bt_of b
 have v0:VV b=k*2 ^ L:=by rw[e,VV_bt hN]
 have v1:VV (b+1)=(k+1)*2 ^ L:=by rw[e,VV_succ hN]
 rw[v1] at h3
 rw[v0] at h1
 rw[v0,v1]
 have par:b % 2=k % 2:=by rw[e]; unfold Bt; omega
 have c1:(((2*k+1)*2 ^ L:Nat):Rat)=((k*2 ^ L:Nat):Rat)+(((k+1)*2 ^ L:Nat):Rat):=by
  rw[show(2*k+1)*2 ^ L=k*2 ^ L+(k+1)*2 ^ L by rw[←Nat.add_mul]; congr 1; omega]
  exact Rat.natCast_add ..
 refine⟨L,k,hN,h1,h3,?_⟩
 rw[c1]
 generalize ((k*2 ^ L:Nat):Rat)=u at *
 generalize (((k+1)*2 ^ L:Nat):Rat)=v at *
 rw[←e]
 split
 ·rename_i h
  refine .inr ⟨rfl,?_⟩
  rcases h with h|⟨h,hp⟩
  ·exact .inl (by grind)
  ·exact .inr ⟨by grind,by omega⟩
 ·rename_i h
  refine .inl ⟨rfl,?_⟩
  have n1:¬(v - Y<Y - u):=fun k=>h (.inl k)
  by_cases q:v - Y=Y - u
  ·have:¬(b % 2=1):=fun k=>h (.inr ⟨q,k⟩)
   exact .inr ⟨by grind,by omega⟩
  ·exact .inl (by grind)
def Half(Y:Rat)(low high:Nat):Prop:=low≤high∧high≤GW∧(VV low:Rat)≤Y∧(high<GW→Y<(VV (high+1):Rat))
theorem half_start{Y:Rat}(h:0≤Y):Half Y 0 GW:=⟨by unfold GW; omega,Nat.le_refl _,by rw[show VV 0=0 from rfl]; exact h,fun k=>absurd k (Nat.lt_irrefl _)⟩
theorem half_low{Y:Rat}{low high:Nat}(h:Half Y low high)(hl:low<high)(hm:(VV (high - (high - low) / 2):Rat)≤Y):Half Y (high - (high - low) / 2) high :=
 ⟨by omega,h.2.1,hm,h.2.2.2⟩
theorem half_high{Y:Rat}{low high:Nat}(h:Half Y low high)(hl:low<high)(hm:Y<(VV (high - (high - low) / 2):Rat)):Half Y low (high - (high - low) / 2 - 1):=by
 refine⟨by omega,by have:=h.2.1; omega,h.2.2.1,fun _=>?_⟩
 rw[show high - (high - low) / 2 - 1+1=high - (high - low) / 2 by omega]; exact hm
end Tr
namespace Tr
open Ieee
theorem int_ex(n:Nat)(hn:0<n)(h:n≤9007199254740992):Exu (double.write (.number false n 0)) ((n*2 ^ UU:Nat):Int):=by
 have hR:Rp (n*2 ^ UU):=by
  rcases Nat.lt_or_ge n 9007199254740992 with c|c
  ·exact⟨n,UU,rfl,c,by rw[UU_eq]; omega⟩
  ·have e:n=4503599627370496*2:=by omega
   refine⟨4503599627370496,UU+1,?_,by decide,by rw[UU_eq]; omega⟩
   rw[e,p2s UU,Nat.mul_assoc,Nat.mul_comm 2]
 have k:=write_exact false n 0 (n*2 ^ UU) (by
  have e1:((0:Int)+1074).toNat=UU:=rfl
  have e2:(-1074 - (0:Int)).toNat=0:=rfl
  rw[e1,e2,Nat.pow_zero,Nat.mul_one]) hR
 simpa using k
theorem ld_bits{m fb:Nat}(hm:0<m)(hm2:m≤9007199254740992)(h:Exu fb ((m*2 ^ UU:Nat):Int))(hx:fb<18446744073709551616) :
  ∃ L k,fb=Bt L k∧4503599627370496≤k∧k<9007199254740992∧1022≤L∧L≤1075∧k*2 ^ L=m*2 ^ UU:=by
 have hp:=Nat.two_pow_pos UU
 have hpos:0<m*2 ^ UU:=Nat.mul_pos hm hp
 obtain⟨h1,h2⟩:=ex_pos h (by exact_mod_cast hpos) hx
 have h3:VV fb=m*2 ^ UU:=by exact_mod_cast h2
 obtain⟨L,k,hN,e⟩:=bt_of fb
 rw[e,VV_bt hN] at h3
 have hk:=hN.1
 have big:(2:Nat) ^ 54≤2 ^ UU:=Nat.pow_le_pow_right (by decide) (by rw[UU_eq]; omega)
 rw[show(2:Nat) ^ 54=18014398509481984 by decide] at big
 have m1:2 ^ UU≤m*2 ^ UU:=by have:=Nat.mul_le_mul_right (2 ^ UU) hm; omega
 have hL0:L≠0:=by
  rintro rfl
  rw[Nat.pow_zero,Nat.mul_one] at h3
  omega
 have hk2:4503599627370496≤k:=hN.2.resolve_left hL0
 refine⟨L,k,e,hk2,hk,?_,?_,h3⟩
 ·rcases Nat.lt_or_ge L 1022 with c|c
  ·exfalso
   have a1:k*2 ^ L<9007199254740992*2 ^ L:=Nat.mul_lt_mul_of_pos_right hk (Nat.two_pow_pos _)
   have a2:9007199254740992*2 ^ L≤2 ^ UU:=by
    rw[show(9007199254740992:Nat)=2 ^ 53 by decide,←Nat.pow_add]
    exact Nat.pow_le_pow_right (by decide) (by rw[UU_eq]; omega)
   omega
  ·exact c
 ·rcases Nat.lt_or_ge 1075 L with c|c
  ·exfalso
   have a1:4503599627370496*2 ^ L≤k*2 ^ L:=Nat.mul_le_mul_right _ hk2
   have a2:9007199254740992*2 ^ (UU+1)≤9007199254740992*2 ^ UU*2:=by rw[p2s UU,Nat.mul_assoc]; exact Nat.le_refl _
   have a3:2 ^ (UU+2)≤2 ^ L:=Nat.pow_le_pow_right (by decide) (by rw[UU_eq]; omega)
   rw[p4 UU] at a3
   have a4:m*2 ^ UU≤9007199254740992*2 ^ UU:=Nat.mul_le_mul_right _ hm2
   have a5:4503599627370496*(2 ^ UU*4)≤4503599627370496*2 ^ L:=Nat.mul_le_mul_left _ a3
   generalize (2:Nat) ^ UU=P at *
   omega
  ·exact c
theorem one_ex:Exu 4607182418800017408 ((2 ^ UU:Nat):Int):=by
 have h:=ex_vv (b:=4607182418800017408) (by decide)
 have e:(4607182418800017408:Nat)=Bt (UU - 52) 4503599627370496:=by unfold Bt; rw[UU_eq]
 have v:VV 4607182418800017408=2 ^ UU:=by
  rw[e,VV_bt ⟨by decide,.inr (by decide)⟩,show(4503599627370496:Nat)=2 ^ 52 by decide,←Nat.pow_add]
  congr 1
 rw[v] at h
 exact h
theorem m53_ex:Exu 4368491638549381120 ((2 ^ (UU - 53):Nat):Int):=by
 have h:=ex_vv (b:=4368491638549381120) (by decide)
 have e:(4368491638549381120:Nat)=Bt (UU - 105) 4503599627370496:=by unfold Bt; rw[UU_eq]
 have v:VV 4368491638549381120=2 ^ (UU - 53):=by
  rw[e,VV_bt ⟨by decide,.inr (by decide)⟩,show(4503599627370496:Nat)=2 ^ 52 by decide,←Nat.pow_add]
  congr 1
 rw[v] at h
 exact h
theorem vv_eq{r b:Nat}(h:Exu r ((VV b:Nat):Int))(hb:0<VV b)(hr:r<18446744073709551616):r=b:=by
 obtain⟨_,h2⟩:=ex_pos h (by exact_mod_cast hb) hr
 exact VV_inj (by exact_mod_cast h2)
theorem rp_vv{b:Nat}(hb:b<9218868437227405312):Rp (VV b):=by
 obtain⟨L,k,hN,rfl⟩:=bt_of b
 have hL:L≤2045:=by
  rcases hN.2 with h2|h2
  ·omega
  ·unfold Bt at hb; omega
 exact⟨k,L,VV_bt hN,hN.1,hL⟩
theorem mul_one_vv{b:Nat}(hb:b<9218868437227405312):∃ r,double.mul 4607182418800017408 b=some r∧Exu r ((VV b:Nat):Int):=by
 refine mul_exact one_ex (ex_vv hb) ?_ ?_
 ·rw[Int.natCast_pow,Int.mul_comm]; rfl
 ·rw[Int.natAbs_natCast]; exact rp_vv hb
theorem mul_low{m L k:Nat}{e:Int}(hm:0<m)(hm2:m≤9007199254740992)(hk:4503599627370496≤k)(hk2:k<9007199254740992)(hL:1022≤L)(hv:k*2 ^ L=m*2 ^ UU)(he:-1074≤e)(ht:e+L<0) :
  ∃ r,double.mul 4368491638549381120 (Bt (e+L+53).toNat k)=some r∧Exu r ((m*2 ^ (e+1074).toNat:Nat):Int):=by
 have hN:Nf (e+L+53).toNat k:=⟨hk2,.inr hk⟩
 have hb:Bt (e+L+53).toNat k<9218868437227405312:=by unfold Bt; omega
 have hx:=ex_vv hb
 rw[VV_bt hN] at hx
 have hmul:2 ^ (UU - 53)*(k*2 ^ (e+L+53).toNat)=m*2 ^ (e+1074).toNat*2 ^ UU:=by
  have e1:2 ^ (UU - 53)*(k*2 ^ (e+L+53).toNat)=k*2 ^ L*2 ^ (e+1074).toNat:=by
   rw[Nat.mul_comm,Nat.mul_assoc,Nat.mul_assoc,←Nat.pow_add,←Nat.pow_add]
   congr 2
   rw[UU_eq]; omega
  rw[e1,hv,Nat.mul_right_comm]
 refine mul_exact m53_ex hx ?_ ?_
 ·rw[show((2:Int) ^ UU)=((2 ^ UU:Nat):Int) from(Int.natCast_pow 2 UU).symm,←Int.natCast_mul,←Int.natCast_mul,hmul]
 ·rw[Int.natAbs_natCast]
  rcases Nat.lt_or_ge m 9007199254740992 with c|c
  ·exact⟨m,_,rfl,c,by omega⟩
  ·refine⟨4503599627370496,(e+1074).toNat+1,?_,by decide,by omega⟩
   rw[p2s,show m=4503599627370496*2 by omega,Nat.mul_assoc,Nat.mul_comm 2]
end Tr
namespace Tr
open Ieee
def Below0(Y:Rat)(b:Nat):Prop:=b≤GW∧(VV b:Rat)≤Y∧(b<GW→Y<(VV (b+1):Rat))
theorem half_end{Y:Rat}{b:Nat}(h:Half Y b b):Below0 Y b:=⟨h.2.1,h.2.2.1,h.2.2.2⟩
theorem vv_lt_thr:VV GW<thrN:=by
 have e:GW=Bt (U44+1) 9007199254740991:=by unfold GW Bt; rw[U44_eq]
 rw[e,VV_bt ⟨by decide,.inr (by decide)⟩,p2s U44]
 unfold thrN
 generalize hP:(2:Nat) ^ U44=P
 have:0<P:=by rw[←hP]; exact Nat.two_pow_pos _
 omega
theorem vvq{a b:Nat}(h:a<b):(VV a:Rat)<(VV b:Rat):=by exact_mod_cast VV_mono h
theorem below0_fun{Y:Rat}{a b:Nat}(ha:Below0 Y a)(hb:Below0 Y b):a=b:=by
 rcases Nat.lt_trichotomy a b with c|c|c
 ·have h1:=ha.2.2 (Nat.lt_of_lt_of_le c hb.1)
  have h2:(VV (a+1):Rat)≤(VV b:Rat):=by exact_mod_cast VV_le (show a+1≤b from c)
  exact absurd (rlt_le h1 (Rat.le_trans h2 hb.2.1)) Rat.lt_irrefl
 ·exact c
 ·have h1:=hb.2.2 (Nat.lt_of_lt_of_le c ha.1)
  have h2:(VV (b+1):Rat)≤(VV a:Rat):=by exact_mod_cast VV_le (show b+1≤a from c)
  exact absurd (rlt_le h1 (Rat.le_trans h2 ha.2.1)) Rat.lt_irrefl
theorem near_cases{Y:Rat}{B b:Nat}(hB:NearB Y B)(h0:Below0 Y b)(hY:Y<(thrN:Rat)):(B=b∨(B=b+1∧(VV b:Rat)<Y∧b<GW))∧B≤GW:=by
 have hd:=doc_near hY h0.1 h0.2.1 h0.2.2
 have e:=nearB_fun hB hd
 have hi:=(nearB_inf hB).2 hY
 have hle:B≤GW:=by unfold GW; omega
 refine⟨?_,hle⟩
 split at e
 ·rename_i h
  right
  have hlt:b<GW:=by omega
  have hn:=h0.2.2 hlt
  refine⟨e,?_,hlt⟩
  have hv:=vvq (Nat.lt_succ_self b)
  rcases h with h|⟨h,_⟩
  ·have:=h0.2.1; grind
  ·grind
 ·exact .inl e
theorem thr_below{Y:Rat}{B b:Nat}(hB:NearB Y B)(h0:Below0 Y b)(hY:¬Y<(thrN:Rat)):GW<B∧b=GW∧(VV GW:Rat)<Y:=by
 have hY':=Rat.not_lt.1 hY
 have hv:(VV GW:Rat)<Y:=rlt_le (show(VV GW:Rat)<(thrN:Rat) by exact_mod_cast vv_lt_thr) hY'
 refine⟨?_,?_,hv⟩
 ·rcases Nat.lt_or_ge GW B with c|c
  ·exact c
  ·exact absurd ((nearB_inf hB).1 (by unfold GW at c; omega)) hY
 ·rcases Nat.lt_or_ge b GW with c|c
  ·have h1:=h0.2.2 c
   have h2:(VV (b+1):Rat)≤(VV GW:Rat):=by exact_mod_cast VV_le (show b+1≤GW from c)
   exact absurd (rlt_le h1 (Rat.le_trans h2 (Rat.le_of_lt hv))) Rat.lt_irrefl
  ·exact Nat.le_antisymm h0.1 c
theorem up_pos{Y:Rat}{B b:Nat}(hB:NearB Y B)(h0:Below0 Y b):(if(VV (min B GW):Rat)<Y then min B GW+1 else min B GW)=(if(VV b:Rat)=Y then b else b+1):=by
 by_cases hY:Y<(thrN:Rat)
 ·obtain⟨h,hle⟩:=near_cases hB h0 hY
  rw[Nat.min_eq_left hle]
  rcases h with rfl|⟨rfl,h1,h2⟩
  ·by_cases c:(VV B:Rat)=Y
   ·rw[if_pos c,if_neg (by rw[c]; exact Rat.lt_irrefl)]
   ·rw[if_neg c,if_pos (by have:=h0.2.1; grind)]
  ·have h3:=h0.2.2 h2
   rw[if_neg (show ¬(VV (b+1):Rat)<Y by grind),if_neg (show ¬(VV b:Rat)=Y by grind)]
 ·obtain⟨h1,h2,h3⟩:=thr_below hB h0 hY
  rw[Nat.min_eq_right (by omega),if_pos h3,h2,if_neg (show ¬(VV GW:Rat)=Y by grind)]
theorem up_neg{Y:Rat}{B b:Nat}(hB:NearB Y B)(h0:Below0 Y b):(if Y<(VV (min B GW):Rat) then min B GW - 1 else min B GW)=b:=by
 by_cases hY:Y<(thrN:Rat)
 ·obtain⟨h,hle⟩:=near_cases hB h0 hY
  rw[Nat.min_eq_left hle]
  rcases h with rfl|⟨rfl,h1,h2⟩
  ·rw[if_neg (by have:=h0.2.1; grind)]
  ·rw[if_pos (h0.2.2 h2)]; omega
 ·obtain⟨h1,h2,h3⟩:=thr_below hB h0 hY
  rw[Nat.min_eq_right (by omega),if_neg (by grind),h2]
end Tr
namespace Tr
open Ieee
theorem cmp_self(a:Int):compare a a=.eq:=by rw[compare_int,if_neg (by omega),if_pos rfl]
theorem ord_self{x:Nat}{v:Int}(h:Exu x v):(double.order x x != some .eq)=false:=by
 rw[order_exact h h,cmp_self]; rfl
theorem fin_lt{b:Nat}(hb:b≤GW):b<9218868437227405312:=by unfold GW at hb; omega
theorem ord_vv{a b:Nat}(ha:a≤GW)(hb:b≤GW):double.order a b=some (if a<b then .lt else if a=b then .eq else .gt):=by
 rw[order_exact (ex_vv (fin_lt ha)) (ex_vv (fin_lt hb)),compare_int]
 rcases Nat.lt_trichotomy a b with h|h|h
 ·rw[if_pos h,if_pos (by exact_mod_cast VV_mono h)]
 ·subst h
  rw[if_neg (Nat.lt_irrefl _),if_pos rfl,if_neg (by omega),if_pos rfl]
 ·have:=VV_mono h
  rw[if_neg (by omega),if_neg (by omega),if_neg (by omega),if_neg (by omega)]
theorem ord_fin{b:Nat}(hb:b≤GW):(double.order b 9218868437227405311 == some .gt)=false:=by
 rw[ord_vv hb (show 9218868437227405311≤GW from Nat.le_refl _)]
 unfold GW at hb
 by_cases h:b<9218868437227405311
 ·rw[if_pos h]; rfl
 ·rw[if_neg h,if_pos (by omega)]; rfl
theorem ord_small{b:Nat}(hb:b≤GW):(double.order b 4503599627370496 == some .lt)=decide (b<4503599627370496):=by
 rw[ord_vv hb (by unfold GW; omega)]
 by_cases h:b<4503599627370496
 ·rw[if_pos h]; simp[h]
 ·rw[if_neg h]
  by_cases k:b=4503599627370496
  ·rw[if_pos k]; simp[h]
  ·rw[if_neg k]; simp[h]
theorem ord_inf:(double.order 9218868437227405312 9218868437227405311 == some .gt)=true:=by decide +kernel
theorem ord_inf_self:(double.order 9218868437227405312 9218868437227405312 != some .eq)=false:=by decide +kernel
end Tr
namespace Tr
open Ieee
theorem cut_zero(neg:Bool)(k drop:Nat):Toward.zero.cut neg (k*2 ^ drop) drop=k:=by
 unfold Toward.cut
 by_cases hk:k=0
 ·subst hk; simp
 ·have hp:0<k*2 ^ drop:=Nat.mul_pos (Nat.pos_of_ne_zero hk) (Nat.two_pow_pos _)
  have h1:drop≤(k*2 ^ drop).log2:=(Nat.le_log2 (Nat.ne_of_gt hp)).2 (Nat.le_mul_of_pos_left _ (Nat.pos_of_ne_zero hk))
  rw[Nat.min_eq_left (by omega),Nat.one_shiftLeft]
  show k*2 ^ drop / 2 ^ drop+(false).toNat=k
  rw[Nat.mul_div_cancel _ (Nat.two_pow_pos _)]
  rfl
theorem toInt_ex{x:Nat}{n:Int}(h:Exu x (n*2 ^ UU)):(double.read x).toInt .zero=some n:=by
 obtain⟨s,m,e,h1,h2,h3⟩:=h
 have habs:m*2 ^ (e+1074).toNat=n.natAbs*2 ^ UU:=by
  have:=congrArg Int.natAbs h3
  rwa[signed_natAbs,Int.natAbs_mul,natAbs_two_pow] at this
 have hcut:Toward.zero.cut s (m <<< e.toNat) (-e).toNat=n.natAbs:=by
  rw[Nat.shiftLeft_eq]
  rcases Int.lt_or_le e 0 with c|c
  ·have e1:(2:Nat) ^ UU=2 ^ (-e).toNat*2 ^ (e+1074).toNat:=by rw[←Nat.pow_add]; congr 1; rw[UU_eq]; omega
   rw[e1,←Nat.mul_assoc] at habs
   have e2:=Nat.mul_right_cancel (Nat.two_pow_pos _) habs
   rw[show e.toNat=0 by omega,Nat.pow_zero,Nat.mul_one,e2]
   exact cut_zero ..
  ·have e1:(2:Nat) ^ (e+1074).toNat=2 ^ e.toNat*2 ^ UU:=by rw[←Nat.pow_add]; congr 1; rw[UU_eq]; omega
   rw[e1,←Nat.mul_assoc] at habs
   have e2:=Nat.mul_right_cancel (Nat.two_pow_pos _) habs
   rw[show(-e).toNat=0 by omega,e2]
   have:=cut_zero s n.natAbs 0
   rwa[Nat.pow_zero,Nat.mul_one] at this
 rw[h1]
 show some (signed s (Toward.zero.cut s (m <<< e.toNat) (-e).toNat) 0)=some n
 rw[hcut,signed_eq]
 rw[signed_eq] at h3
 have hp:(0:Int)<2 ^ UU:=Int.pow_pos (by decide)
 generalize (2:Int) ^ UU=P at *
 generalize m*2 ^ (e+1074).toNat=M at *
 congr 1
 cases s
 ·simp only[Bool.false_eq_true,if_false] at h3 ⊢
  have hn:0≤n:=by
   rcases Int.lt_or_le n 0 with c|c
   ·have:=Int.mul_neg_of_neg_of_pos c hp; omega
   ·exact c
  simp; omega
 ·simp only[if_true] at h3 ⊢
  have hn:n≤0:=by
   rcases Int.lt_or_le 0 n with c|c
   ·have:=Int.mul_pos c hp; omega
   ·exact c
  simp; omega
theorem norm_of{b:Nat}(hb:b≤GW)(h:4503599627370496≤b):∃ L k,b=Bt L k∧4503599627370496≤k∧k<9007199254740992∧L≤2045:=by
 obtain⟨L,k,hN,e⟩:=bt_of b
 unfold GW at hb
 rcases hN.2 with h2|h2
 ·subst h2
  exact⟨0,k,e,by unfold Bt at e; omega,hN.1,by omega⟩
 ·exact⟨L,k,e,h2,hN.1,by unfold Bt at e; omega⟩
theorem two52_ex:Exu 4841369599423283200 ((4503599627370496*2 ^ UU:Nat):Int):=by
 have h:=ex_vv (b:=4841369599423283200) (by decide)
 have e:(4841369599423283200:Nat)=Bt UU 4503599627370496:=by unfold Bt; rw[UU_eq]
 have v:VV 4841369599423283200=4503599627370496*2 ^ UU:=by rw[e,VV_bt ⟨by decide,.inr (by decide)⟩]
 rw[v] at h
 exact h
theorem two53_ex:Exu 4845873199050653696 ((9007199254740992*2 ^ UU:Nat):Int):=by
 have h:=ex_vv (b:=4845873199050653696) (by decide)
 have e:(4845873199050653696:Nat)=Bt (UU+1) 4503599627370496:=by unfold Bt; rw[UU_eq]
 have v:VV 4845873199050653696=9007199254740992*2 ^ UU:=by
  rw[e,VV_bt ⟨by decide,.inr (by decide)⟩,p2s UU]
  generalize (2:Nat) ^ UU=P; omega
 rw[v] at h
 exact h
theorem pow_int(n:Nat):((2:Int) ^ n)=((2 ^ n:Nat):Int):=(Int.natCast_pow 2 n).symm
theorem sub_mul{b:Nat}(hb:b<4503599627370496):∃ r,double.mul b 4841369599423283200=some r∧Exu r ((b*4503599627370496:Nat):Int):=by
 have hx:=ex_vv (b:=b) (by omega)
 have v:VV b=b:=by unfold VV; rw[if_pos hb]
 rw[v] at hx
 refine mul_exact hx two52_ex ?_ ?_
 ·rw[pow_int,←Int.natCast_mul,←Int.natCast_mul,Nat.mul_assoc]
 ·rw[Int.natAbs_natCast]
  exact⟨b,52,by rw[show(2:Nat) ^ 52=4503599627370496 by decide],by omega,by omega⟩
theorem sub_norm{b r:Nat}(h0:0<b)(hb:b<4503599627370496)(h:Exu r ((b*4503599627370496:Nat):Int))(hr:r<18446744073709551616) :
  ∃ L k,r=Bt L k∧4503599627370496≤k∧k<9007199254740992∧L≤51∧k*2 ^ L=b*4503599627370496:=by
 obtain⟨h1,h2⟩:=ex_pos h (by omega) hr
 have h3:VV r=b*4503599627370496:=by exact_mod_cast h2
 obtain⟨L,k,hN,e⟩:=bt_of r
 rw[e,VV_bt hN] at h3
 have hk:=hN.1
 have hk2:4503599627370496≤k:=by
  rcases hN.2 with c|c
  ·subst c; rw[Nat.pow_zero,Nat.mul_one] at h3; omega
  ·exact c
 refine⟨L,k,e,hk2,hk,?_,h3⟩
 rcases Nat.lt_or_ge 51 L with c|c
 ·exfalso
  have a1:4503599627370496*2 ^ 52≤k*2 ^ L:=Nat.mul_le_mul hk2 (Nat.pow_le_pow_right (by decide) c)
  rw[show(2:Nat) ^ 52=4503599627370496 by decide] at a1
  omega
 ·exact c
end Tr
