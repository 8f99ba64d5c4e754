/- Laws for the walk. -/
import Derived.Test.YthklnbaddobieaaGreatVal
import Derived.Laws.Bits64b
set_option linter.unusedVariables false
set_option maxHeartbeats 4000000
namespace Tr
open Ieee
def f64N(n:Nat)(up:Int):Nat:=if 0≤up then n*2 ^ up.toNat else n
def f64D(d:Nat)(up:Int):Nat:=if 0≤up then d else d*2 ^ (-up).toNat
def f64c(up:Int):Rat:=if 0≤up then((2 ^ UU:Nat):Rat) / ((2 ^ up.toNat:Nat):Rat) else((2 ^ (UU+(-up).toNat):Nat):Rat)
def unitsQ(n d:Nat):Rat:=(n:Rat) / (d:Rat)*((2 ^ UU:Nat):Rat)
theorem two_pos(k:Nat):(0:Rat)<((2 ^ k:Nat):Rat):=by exact_mod_cast Nat.two_pow_pos k
theorem f64c_pos(up:Int):0<f64c up:=by
 unfold f64c
 split
 ·rw[Rat.div_def]; exact Rat.mul_pos (two_pos _) (Rat.inv_pos.2 (two_pos _))
 ·exact two_pos _
theorem two_add(a b:Nat):((2 ^ (a+b):Nat):Rat)=((2 ^ a:Nat):Rat)*((2 ^ b:Nat):Rat):=by
 rw[Nat.pow_add]; exact Rat.natCast_mul ..
theorem f64_Y{n d:Nat}(up:Int)(hd:0<d):unitsQ n d=(f64N n up:Rat) / (f64D d up:Rat)*f64c up:=by
 unfold unitsQ f64N f64D f64c
 have hd':(d:Rat)≠0:=Rat.ne_of_gt (by exact_mod_cast hd)
 by_cases h:0≤up
 ·rw[if_pos h,if_pos h,if_pos h]
  have hp:=Rat.ne_of_gt (two_pos up.toNat)
  rw[Rat.natCast_mul]
  generalize ((2 ^ up.toNat:Nat):Rat)=p at *
  generalize ((2 ^ UU:Nat):Rat)=u at *
  grind
 ·rw[if_neg h,if_neg h,if_neg h,two_add]
  have hp:=Rat.ne_of_gt (two_pos (-up).toNat)
  rw[Rat.natCast_mul]
  generalize ((2 ^ (-up).toNat:Nat):Rat)=p at *
  generalize ((2 ^ UU:Nat):Rat)=u at *
  grind
theorem f64c_L{up:Int}{low L:Nat}(h:(L:Int)+up=low+UU):((2 ^ L:Nat):Rat)=((2 ^ low:Nat):Rat)*f64c up:=by
 unfold f64c
 by_cases k:0≤up
 ·rw[if_pos k]
  have e:L+up.toNat=low+UU:=by omega
  have e2:=two_add L up.toNat
  rw[e,two_add] at e2
  have hp:=Rat.ne_of_gt (two_pos up.toNat)
  generalize ((2 ^ up.toNat:Nat):Rat)=p at *
  generalize ((2 ^ UU:Nat):Rat)=u at *
  generalize ((2 ^ L:Nat):Rat)=l at *
  generalize ((2 ^ low:Nat):Rat)=w at *
  grind
 ·rw[if_neg k,←two_add]
  have e:L=low+(UU+(-up).toNat):=by omega
  rw[e]
theorem f64_q{n d bn bd:Nat}{up:Int}(n1:n<2 ^ bn)(n2:2 ^ (bn - 1)≤n)(hbn:0<bn)(d1:d<2 ^ bd)(d2:2 ^ (bd - 1)≤d)(hbd:0<bd)(hup:up=66 - (bn:Int)+bd) :
  0<f64D d up∧36893488147419103232≤f64N n up / f64D d up∧f64N n up / f64D d up<147573952589676412928:=by
 have hd:0<d:=Nat.lt_of_lt_of_le (Nat.two_pow_pos _) d2
 have p65:(36893488147419103232:Nat)=2 ^ 65:=by decide
 have p67:(147573952589676412928:Nat)=2 ^ 67:=by decide
 unfold f64N f64D
 by_cases h:0≤up
 ·rw[if_pos h,if_pos h]
  refine⟨hd,?_,?_⟩
  ·rw[Nat.le_div_iff_mul_le hd,p65]
   have e1:2 ^ 65*2 ^ bd=2 ^ (bn - 1)*2 ^ up.toNat:=by rw[←Nat.pow_add,←Nat.pow_add]; congr 1; omega
   have e2:2 ^ 65*d≤2 ^ 65*2 ^ bd:=Nat.mul_le_mul_left _ (Nat.le_of_lt d1)
   have e3:2 ^ (bn - 1)*2 ^ up.toNat≤n*2 ^ up.toNat:=Nat.mul_le_mul_right _ n2
   omega
  ·rw[Nat.div_lt_iff_lt_mul hd,p67]
   have e1:2 ^ bn*2 ^ up.toNat=2 ^ 67*2 ^ (bd - 1):=by rw[←Nat.pow_add,←Nat.pow_add]; congr 1; omega
   have e2:2 ^ 67*2 ^ (bd - 1)≤2 ^ 67*d:=Nat.mul_le_mul_left _ d2
   have e3:n*2 ^ up.toNat<2 ^ bn*2 ^ up.toNat:=Nat.mul_lt_mul_of_pos_right n1 (Nat.two_pow_pos _)
   omega
 ·rw[if_neg h,if_neg h]
  have hD:0<d*2 ^ (-up).toNat:=Nat.mul_pos hd (Nat.two_pow_pos _)
  refine⟨hD,?_,?_⟩
  ·rw[Nat.le_div_iff_mul_le hD,p65]
   have e1:2 ^ 65*(2 ^ bd*2 ^ (-up).toNat)=2 ^ (bn - 1):=by rw[←Nat.pow_add,←Nat.pow_add]; congr 1; omega
   have e2:2 ^ 65*(d*2 ^ (-up).toNat)≤2 ^ 65*(2 ^ bd*2 ^ (-up).toNat):=Nat.mul_le_mul_left _ (Nat.mul_le_mul_right _ (Nat.le_of_lt d1))
   omega
  ·rw[Nat.div_lt_iff_lt_mul hD,p67]
   have e1:2 ^ bn=2 ^ 67*(2 ^ (bd - 1)*2 ^ (-up).toNat):=by rw[←Nat.pow_add,←Nat.pow_add]; congr 1; omega
   have e2:2 ^ 67*(2 ^ (bd - 1)*2 ^ (-up).toNat)≤2 ^ 67*(d*2 ^ (-up).toNat):=Nat.mul_le_mul_left _ (Nat.mul_le_mul_right _ d2)
   omega
theorem bits_67{q Q:Nat}(h1:36893488147419103232≤q)(h2:q<147573952589676412928)(q1:q<2 ^ Q)(q2:2 ^ (Q - 1)≤q):Q=66∨Q=67:=by
 have a:65<Q:=by
  rcases Nat.lt_or_ge 65 Q with h|h
  ·exact h
  ·have:=Nat.pow_le_pow_right (show 0<2 by decide) h
   rw[show(2:Nat) ^ 65=36893488147419103232 by decide] at this
   omega
 have b:Q - 1<67:=by
  rcases Nat.lt_or_ge (Q - 1) 67 with h|h
  ·exact h
  ·have:=Nat.pow_le_pow_right (show 0<2 by decide) h
   rw[show(2:Nat) ^ 67=147573952589676412928 by decide] at this
   omega
 omega
theorem f64_near{n d q r Q low k rest:Nat}{up:Int}(hD:0<f64D d up)(hd:0<d)(hN:f64N n up=q*f64D d up+r)(hr:r<f64D d up)(hQ:Q=66∨Q=67)(q1:q<2 ^ Q)(q2:2 ^ (Q - 1)≤q)
  (hk:q=k*2 ^ low+rest) (hrest:rest<2 ^ low)
  (hlow:((low:Int)=Q - 53∧up - 1074≤Q - 53)∨((low:Int)=up - 1074∧(Q:Int) - 53<up - 1074∧up - 1074≤Q+1)∨(low=Q+1∧(Q:Int)+1<up - 1074)) :
  ∃ B,NearB (unitsQ n d) B∧(∀ m,m=(if 2 ^ (low - 1)<rest∨(rest=2 ^ (low - 1)∧(r≠0∨k % 2=1)) then k+1 else k)→m≤9007199254740992∧((m=0∧B=0)∨(0<m∧-1074≤(low:Int) - up∧VV B=m*2 ^ ((low:Int) - up+1074).toNat))):=by
 have hY:=f64_Y (n:=n) up hd
 have hc:=f64c_pos up
 have go:∀ L:Nat,(L:Int)+up=low+UU→Nf L k→0<low→∃ B,NearB (unitsQ n d) B∧(∀ m,m=(if 2 ^ (low - 1)<rest∨(rest=2 ^ (low - 1)∧(r≠0∨k % 2=1)) then k+1 else k)→m≤9007199254740992∧((m=0∧B=0)∨(0<m∧-1074≤(low:Int) - up∧VV B=m*2 ^ ((low:Int) - up+1074).toNat))):=by
  intro L hL hNf hl
  have eL:((low:Int) - up+1074).toNat=L:=by rw[UU_eq] at hL; omega
  refine⟨_,near_shift hD hN hr hc hY (f64c_L hL) hk hrest hl hNf,?_⟩
  intro m hm
  have hk53:=hNf.1
  rw[eL]
  split at hm
  ·rename_i h
   rw[if_pos h]
   refine⟨by omega,.inr ⟨by omega,by rw[UU_eq] at hL; omega,?_⟩⟩
   rw[VV_succ hNf,hm]
  ·rename_i h
   rw[if_neg h]
   refine⟨by omega,?_⟩
   rcases Nat.eq_zero_or_pos k with h0|h0
   ·left
    refine⟨by omega,?_⟩
    rcases hNf.2 with h2|h2
    ·subst h2; subst h0; rfl
    ·omega
   ·right
    refine⟨by omega,by rw[UU_eq] at hL; omega,?_⟩
    rw[VV_bt hNf,hm]
 have two (a b:Nat) (h:a≤b):(2:Nat) ^ b=2 ^ (b - a)*2 ^ a:=by rw[←Nat.pow_add]; congr 1; omega
 rcases hlow with⟨l1,l2⟩|⟨l1,l2,l3⟩|⟨l1,l2⟩
 ·refine go (((low:Int)+1074 - up).toNat) (by rw[UU_eq]; omega) ⟨?_,.inr ?_⟩ (by omega)
  ·have e:=two low Q (by omega)
   have e3:(2:Nat) ^ (Q - low)=9007199254740992:=by rw[show Q - low=53 by omega]
   rw[e3] at e
   rcases Nat.lt_or_ge k 9007199254740992 with h|h
   ·exact h
   ·have:=Nat.mul_le_mul_right (2 ^ low) h; omega
  ·have e:=two low (Q - 1) (by omega)
   have e3:(2:Nat) ^ (Q - 1 - low)=4503599627370496:=by rw[show Q - 1 - low=52 by omega]
   rw[e3] at e
   rcases Nat.lt_or_ge k 4503599627370496 with h|h
   ·have h4:=Nat.mul_le_mul_right (2 ^ low) (show k+1≤4503599627370496 by omega)
    rw[Nat.add_mul] at h4
    omega
   ·exact h
 ·refine go 0 (by rw[UU_eq]; omega) ⟨?_,.inl rfl⟩ (by omega)
  rcases Nat.lt_or_ge k 9007199254740992 with h|h
  ·exact h
  ·exfalso
   have h5:=Nat.mul_le_mul_right (2 ^ low) h
   have h6:(2:Nat) ^ Q≤9007199254740992*2 ^ low:=by
    rw[show(9007199254740992:Nat)=2 ^ 53 by decide,←Nat.pow_add]
    exact Nat.pow_le_pow_right (by decide) (by omega)
   omega
 ·-- far below the least float
  have hq:q<2 ^ (low - 1):=by rw[l1]; simpa using q1
  have hk0:k=0:=by
   rcases Nat.eq_zero_or_pos k with h|h
   ·exact h
   ·exfalso
    have h5:=Nat.mul_le_mul_right (2 ^ low) h
    have h6:(2:Nat) ^ (low - 1)≤2 ^ low:=Nat.pow_le_pow_right (by decide) (by omega)
    omega
  have hrq:rest=q:=by rw[hk,hk0]; omega
  have hD':(0:Rat)<(f64D d up:Rat):=by exact_mod_cast hD
  have hX:(f64N n up:Rat) / (f64D d up:Rat)<((2 ^ (low - 1):Nat):Rat):=by
   rw[Rat.div_lt_iff hD']
   have h5:f64N n up<2 ^ (low - 1)*f64D d up:=by
    have:=Nat.mul_le_mul_right (f64D d up) (show q+1≤2 ^ (low - 1) from hq)
    rw[Nat.add_mul] at this
    omega
   have:((f64N n up:Nat):Rat)<((2 ^ (low - 1)*f64D d up:Nat):Rat):=by exact_mod_cast h5
   rw[Rat.natCast_mul] at this
   exact this
  have hX0:0≤(f64N n up:Rat) / (f64D d up:Rat):=by
   rw[Rat.div_def]; exact Rat.mul_nonneg (by exact_mod_cast Nat.zero_le _) (Rat.le_of_lt (Rat.inv_pos.2 hD'))
  have hPc:((2 ^ (low - 1):Nat):Rat)*f64c up*4≤1:=by
   unfold f64c
   rw[if_pos (by omega)]
   have hp:=two_pos up.toNat
   have e1:2 ^ (low - 1)*2 ^ UU*4≤2 ^ up.toNat:=by
    rw[show(4:Nat)=2 ^ 2 by decide,←Nat.pow_add,←Nat.pow_add]
    exact Nat.pow_le_pow_right (by decide) (by rw[UU_eq]; omega)
   have e2:((2 ^ (low - 1):Nat):Rat)*((2 ^ UU:Nat):Rat)*4≤((2 ^ up.toNat:Nat):Rat):=by
    have:((2 ^ (low - 1)*2 ^ UU*4:Nat):Rat)≤((2 ^ up.toNat:Nat):Rat):=by exact_mod_cast e1
    rw[Rat.natCast_mul,Rat.natCast_mul] at this
    exact this
   generalize ((2 ^ up.toNat:Nat):Rat)=p at *
   generalize ((2 ^ UU:Nat):Rat)=u at *
   generalize ((2 ^ (low - 1):Nat):Rat)=w at *
   have e3:w*(u / p)*4=(w*u*4) / p:=by grind
   rw[e3]
   refine Rat.not_lt.1 (fun h=>?_)
   rw[Rat.lt_div_iff hp,Rat.one_mul] at h
   exact absurd (rlt_le h e2) Rat.lt_irrefl
  have hY4:unitsQ n d*4<1:=by
   rw[hY]
   have:=Rat.mul_lt_mul_of_pos_right hX hc
   generalize (f64N n up:Rat) / (f64D d up:Rat)*f64c up=a at *
   generalize ((2 ^ (low - 1):Nat):Rat)*f64c up=b at *
   grind
  have hY0:0≤unitsQ n d:=by rw[hY]; exact Rat.mul_nonneg hX0 (Rat.le_of_lt hc)
  generalize unitsQ n d=Y at *
  refine⟨0,⟨0,0,⟨by decide,.inl rfl⟩,?_,?_,.inl ⟨rfl,.inl ?_⟩⟩,?_⟩
  ·simpa using hY0
  ·simp; grind
  ·simp; grind
  ·intro m hm
   have hc1:¬(2 ^ (low - 1)<rest∨(rest=2 ^ (low - 1)∧(r≠0∨k % 2=1))):=by
    rw[hrq]; omega
   rw[if_neg hc1,hk0] at hm
   exact⟨by omega,.inl ⟨hm,rfl⟩⟩
end Tr
namespace Tr
open Ieee
def GW:Nat:=9218868437227405311
theorem VV_G1:VV (GW+1)=4*(4503599627370496*2 ^ U44):=by
 have h:GW+1=Bt (U44+2) 4503599627370496:=by unfold GW Bt; rw[U44_eq]
 rw[h,VV_bt ⟨by decide,.inr (by decide)⟩,p4 U44]; generalize (2:Nat) ^ U44=P; omega
theorem thr_G1:thrN≤VV (GW+1):=by
 rw[VV_G1]; unfold thrN; generalize (2:Nat) ^ U44=P; omega
theorem doc_near{Y:Rat}{b:Nat}(hY:Y<(thrN:Rat))(hb:b≤GW)(h1:(VV b:Rat)≤Y)(h2:b<GW→Y<(VV (b+1):Rat)) :
  NearB Y (if(VV (b+1):Rat) - Y<Y - (VV b:Rat)∨((VV (b+1):Rat) - Y=Y - (VV b:Rat)∧b % 2=1) then b+1 else b):=by
 have h3:Y<(VV (b+1):Rat):=by
  rcases Nat.lt_or_ge b GW with c|c
  ·exact h2 c
  ·have e:b=GW:=by omega
   rw[e]; exact rlt_le hY (by exact_mod_cast thr_G1)
 obtain⟨L,k,hN,e⟩:=bt_of b
 have v0:VV b=k*2 ^ L:=by rw[e,VV_bt hN]
 have v1:VV (b+1)=(k+1)*2 ^ L:=by rw[e,VV_succ hN]
 rw[v1] at h3
 rw[v0] at h1
 rw[v0,v1]
 have par:b % 2=k % 2:=by rw[e]; unfold Bt; omega
 have c1:(((2*k+1)*2 ^ L:Nat):Rat)=((k*2 ^ L:Nat):Rat)+(((k+1)*2 ^ L:Nat):Rat):=by
  rw[show(2*k+1)*2 ^ L=k*2 ^ L+(k+1)*2 ^ L by rw[←Nat.add_mul]; congr 1; omega]
  exact Rat.natCast_add ..
 refine⟨L,k,hN,h1,h3,?_⟩
 rw[c1]
 generalize ((k*2 ^ L:Nat):Rat)=u at *
 generalize (((k+1)*2 ^ L:Nat):Rat)=v at *
 rw[←e]
 split
 ·rename_i h
  refine .inr ⟨rfl,?_⟩
  rcases h with h|⟨h,hp⟩
  ·exact .inl (by grind)
  ·exact .inr ⟨by grind,by omega⟩
 ·rename_i h
  refine .inl ⟨rfl,?_⟩
  have n1:¬(v - Y<Y - u):=fun k=>h (.inl k)
  by_cases q:v - Y=Y - u
  ·have:¬(b % 2=1):=fun k=>h (.inr ⟨q,k⟩)
   exact .inr ⟨by grind,by omega⟩
  ·exact .inl (by grind)
def Half(Y:Rat)(low high:Nat):Prop:=low≤high∧high≤GW∧(VV low:Rat)≤Y∧(high<GW→Y<(VV (high+1):Rat))
theorem half_start{Y:Rat}(h:0≤Y):Half Y 0 GW:=⟨by unfold GW; omega,Nat.le_refl _,by rw[show VV 0=0 from rfl]; exact h,fun k=>absurd k (Nat.lt_irrefl _)⟩
theorem half_low{Y:Rat}{low high:Nat}(h:Half Y low high)(hl:low<high)(hm:(VV (high - (high - low) / 2):Rat)≤Y):Half Y (high - (high - low) / 2) high :=
 ⟨by omega,h.2.1,hm,h.2.2.2⟩
theorem half_high{Y:Rat}{low high:Nat}(h:Half Y low high)(hl:low<high)(hm:Y<(VV (high - (high - low) / 2):Rat)):Half Y low (high - (high - low) / 2 - 1):=by
 refine⟨by omega,by have:=h.2.1; omega,h.2.2.1,fun _=>?_⟩
 rw[show high - (high - low) / 2 - 1+1=high - (high - low) / 2 by omega]; exact hm
end Tr
namespace Tr
open Ieee
theorem int_ex(n:Nat)(hn:0<n)(h:n≤9007199254740992):Exu (double.write (.number false n 0)) ((n*2 ^ UU:Nat):Int):=by
 have hR:Rp (n*2 ^ UU):=by
  rcases Nat.lt_or_ge n 9007199254740992 with c|c
  ·exact⟨n,UU,rfl,c,by rw[UU_eq]; omega⟩
  ·have e:n=4503599627370496*2:=by omega
   refine⟨4503599627370496,UU+1,?_,by decide,by rw[UU_eq]; omega⟩
   rw[e,p2s UU,Nat.mul_assoc,Nat.mul_comm 2]
 have k:=write_exact false n 0 (n*2 ^ UU) (by
  have e1:((0:Int)+1074).toNat=UU:=rfl
  have e2:(-1074 - (0:Int)).toNat=0:=rfl
  rw[e1,e2,Nat.pow_zero,Nat.mul_one]) hR
 simpa using k
theorem ld_bits{m fb:Nat}(hm:0<m)(hm2:m≤9007199254740992)(h:Exu fb ((m*2 ^ UU:Nat):Int))(hx:fb<18446744073709551616) :
  ∃ L k,fb=Bt L k∧4503599627370496≤k∧k<9007199254740992∧1022≤L∧L≤1075∧k*2 ^ L=m*2 ^ UU:=by
 have hp:=Nat.two_pow_pos UU
 have hpos:0<m*2 ^ UU:=Nat.mul_pos hm hp
 obtain⟨h1,h2⟩:=ex_pos h (by exact_mod_cast hpos) hx
 have h3:VV fb=m*2 ^ UU:=by exact_mod_cast h2
 obtain⟨L,k,hN,e⟩:=bt_of fb
 rw[e,VV_bt hN] at h3
 have hk:=hN.1
 have big:(2:Nat) ^ 54≤2 ^ UU:=Nat.pow_le_pow_right (by decide) (by rw[UU_eq]; omega)
 rw[show(2:Nat) ^ 54=18014398509481984 by decide] at big
 have m1:2 ^ UU≤m*2 ^ UU:=by have:=Nat.mul_le_mul_right (2 ^ UU) hm; omega
 have hL0:L≠0:=by
  rintro rfl
  rw[Nat.pow_zero,Nat.mul_one] at h3
  omega
 have hk2:4503599627370496≤k:=hN.2.resolve_left hL0
 refine⟨L,k,e,hk2,hk,?_,?_,h3⟩
 ·rcases Nat.lt_or_ge L 1022 with c|c
  ·exfalso
   have a1:k*2 ^ L<9007199254740992*2 ^ L:=Nat.mul_lt_mul_of_pos_right hk (Nat.two_pow_pos _)
   have a2:9007199254740992*2 ^ L≤2 ^ UU:=by
    rw[show(9007199254740992:Nat)=2 ^ 53 by decide,←Nat.pow_add]
    exact Nat.pow_le_pow_right (by decide) (by rw[UU_eq]; omega)
   omega
  ·exact c
 ·rcases Nat.lt_or_ge 1075 L with c|c
  ·exfalso
   have a1:4503599627370496*2 ^ L≤k*2 ^ L:=Nat.mul_le_mul_right _ hk2
   have a2:9007199254740992*2 ^ (UU+1)≤9007199254740992*2 ^ UU*2:=by rw[p2s UU,Nat.mul_assoc]; exact Nat.le_refl _
   have a3:2 ^ (UU+2)≤2 ^ L:=Nat.pow_le_pow_right (by decide) (by rw[UU_eq]; omega)
   rw[p4 UU] at a3
   have a4:m*2 ^ UU≤9007199254740992*2 ^ UU:=Nat.mul_le_mul_right _ hm2
   have a5:4503599627370496*(2 ^ UU*4)≤4503599627370496*2 ^ L:=Nat.mul_le_mul_left _ a3
   generalize (2:Nat) ^ UU=P at *
   omega
  ·exact c
theorem one_ex:Exu 4607182418800017408 ((2 ^ UU:Nat):Int):=by
 have h:=ex_vv (b:=4607182418800017408) (by decide)
 have e:(4607182418800017408:Nat)=Bt (UU - 52) 4503599627370496:=by unfold Bt; rw[UU_eq]
 have v:VV 4607182418800017408=2 ^ UU:=by
  rw[e,VV_bt ⟨by decide,.inr (by decide)⟩,show(4503599627370496:Nat)=2 ^ 52 by decide,←Nat.pow_add]
  congr 1
 rw[v] at h
 exact h
theorem m53_ex:Exu 4368491638549381120 ((2 ^ (UU - 53):Nat):Int):=by
 have h:=ex_vv (b:=4368491638549381120) (by decide)
 have e:(4368491638549381120:Nat)=Bt (UU - 105) 4503599627370496:=by unfold Bt; rw[UU_eq]
 have v:VV 4368491638549381120=2 ^ (UU - 53):=by
  rw[e,VV_bt ⟨by decide,.inr (by decide)⟩,show(4503599627370496:Nat)=2 ^ 52 by decide,←Nat.pow_add]
  congr 1
 rw[v] at h
 exact h
theorem vv_eq{r b:Nat}(h:Exu r ((VV b:Nat):Int))(hb:0<VV b)(hr:r<18446744073709551616):r=b:=by
 obtain⟨_,h2⟩:=ex_pos h (by exact_mod_cast hb) hr
 exact VV_inj (by exact_mod_cast h2)
theorem rp_vv{b:Nat}(hb:b<9218868437227405312):Rp (VV b):=by
 obtain⟨L,k,hN,rfl⟩:=bt_of b
 have hL:L≤2045:=by
  rcases hN.2 with h2|h2
  ·omega
  ·unfold Bt at hb; omega
 exact⟨k,L,VV_bt hN,hN.1,hL⟩
theorem mul_one_vv{b:Nat}(hb:b<9218868437227405312):∃ r,double.mul 4607182418800017408 b=some r∧Exu r ((VV b:Nat):Int):=by
 refine mul_exact one_ex (ex_vv hb) ?_ ?_
 ·rw[Int.natCast_pow,Int.mul_comm]; rfl
 ·rw[Int.natAbs_natCast]; exact rp_vv hb
theorem mul_low{m L k:Nat}{e:Int}(hm:0<m)(hm2:m≤9007199254740992)(hk:4503599627370496≤k)(hk2:k<9007199254740992)(hL:1022≤L)(hv:k*2 ^ L=m*2 ^ UU)(he:-1074≤e)(ht:e+L<0) :
  ∃ r,double.mul 4368491638549381120 (Bt (e+L+53).toNat k)=some r∧Exu r ((m*2 ^ (e+1074).toNat:Nat):Int):=by
 have hN:Nf (e+L+53).toNat k:=⟨hk2,.inr hk⟩
 have hb:Bt (e+L+53).toNat k<9218868437227405312:=by unfold Bt; omega
 have hx:=ex_vv hb
 rw[VV_bt hN] at hx
 have hmul:2 ^ (UU - 53)*(k*2 ^ (e+L+53).toNat)=m*2 ^ (e+1074).toNat*2 ^ UU:=by
  have e1:2 ^ (UU - 53)*(k*2 ^ (e+L+53).toNat)=k*2 ^ L*2 ^ (e+1074).toNat:=by
   rw[Nat.mul_comm,Nat.mul_assoc,Nat.mul_assoc,←Nat.pow_add,←Nat.pow_add]
   congr 2
   rw[UU_eq]; omega
  rw[e1,hv,Nat.mul_right_comm]
 refine mul_exact m53_ex hx ?_ ?_
 ·rw[show((2:Int) ^ UU)=((2 ^ UU:Nat):Int) from(Int.natCast_pow 2 UU).symm,←Int.natCast_mul,←Int.natCast_mul,hmul]
 ·rw[Int.natAbs_natCast]
  rcases Nat.lt_or_ge m 9007199254740992 with c|c
  ·exact⟨m,_,rfl,c,by omega⟩
  ·refine⟨4503599627370496,(e+1074).toNat+1,?_,by decide,by omega⟩
   rw[p2s,show m=4503599627370496*2 by omega,Nat.mul_assoc,Nat.mul_comm 2]
end Tr
namespace Tr
open Ieee
def Below0(Y:Rat)(b:Nat):Prop:=b≤GW∧(VV b:Rat)≤Y∧(b<GW→Y<(VV (b+1):Rat))
theorem half_end{Y:Rat}{b:Nat}(h:Half Y b b):Below0 Y b:=⟨h.2.1,h.2.2.1,h.2.2.2⟩
theorem below0_fun{Y:Rat}{a b:Nat}(ha:Below0 Y a)(hb:Below0 Y b):a=b:=by
 rcases Nat.lt_trichotomy a b with c|c|c
 ·have h1:=ha.2.2 (Nat.lt_of_lt_of_le c hb.1)
  have h2:(VV (a+1):Rat)≤(VV b:Rat):=by exact_mod_cast VV_le (show a+1≤b from c)
  exact absurd (rlt_le h1 (Rat.le_trans h2 hb.2.1)) Rat.lt_irrefl
 ·exact c
 ·have h1:=hb.2.2 (Nat.lt_of_lt_of_le c ha.1)
  have h2:(VV (b+1):Rat)≤(VV a:Rat):=by exact_mod_cast VV_le (show b+1≤a from c)
  exact absurd (rlt_le h1 (Rat.le_trans h2 ha.2.1)) Rat.lt_irrefl
end Tr
namespace Tr
open Ieee
theorem cmp_self(a:Int):compare a a=.eq:=by rw[compare_int,if_neg (by omega),if_pos rfl]
theorem ord_self{x:Nat}{v:Int}(h:Exu x v):(double.order x x != some .eq)=false:=by
 rw[order_exact h h,cmp_self]; rfl
theorem fin_lt{b:Nat}(hb:b≤GW):b<9218868437227405312:=by unfold GW at hb; omega
theorem ord_vv{a b:Nat}(ha:a≤GW)(hb:b≤GW):double.order a b=some (if a<b then .lt else if a=b then .eq else .gt):=by
 rw[order_exact (ex_vv (fin_lt ha)) (ex_vv (fin_lt hb)),compare_int]
 rcases Nat.lt_trichotomy a b with h|h|h
 ·rw[if_pos h,if_pos (by exact_mod_cast VV_mono h)]
 ·subst h
  rw[if_neg (Nat.lt_irrefl _),if_pos rfl,if_neg (by omega),if_pos rfl]
 ·have:=VV_mono h
  rw[if_neg (by omega),if_neg (by omega),if_neg (by omega),if_neg (by omega)]
theorem ord_fin{b:Nat}(hb:b≤GW):(double.order b 9218868437227405311 == some .gt)=false:=by
 rw[ord_vv hb (show 9218868437227405311≤GW from Nat.le_refl _)]
 unfold GW at hb
 by_cases h:b<9218868437227405311
 ·rw[if_pos h]; rfl
 ·rw[if_neg h,if_pos (by omega)]; rfl
theorem ord_small{b:Nat}(hb:b≤GW):(double.order b 4503599627370496 == some .lt)=decide (b<4503599627370496):=by
 rw[ord_vv hb (by unfold GW; omega)]
 by_cases h:b<4503599627370496
 ·rw[if_pos h]; simp[h]
 ·rw[if_neg h]
  by_cases k:b=4503599627370496
  ·rw[if_pos k]; simp[h]
  ·rw[if_neg k]; simp[h]
theorem ord_inf:(double.order 9218868437227405312 9218868437227405311 == some .gt)=true:=by decide +kernel
end Tr
namespace Tr
open Ieee
end Tr
namespace Tr
open Ieee
def sgw(s:Bool)(b:Nat):Nat:=if s then 9223372036854775808+b else b
def sgv(s:Bool)(b:Nat):Int:=if s then -((VV b:Nat):Int) else((VV b:Nat):Int)
theorem sgw_lt{s:Bool}{b:Nat}(hb:b≤GW):sgw s b<18446744073709551616:=by unfold GW at hb; unfold sgw; split<;>omega
theorem xor_top(b:Nat)(hb:b<9223372036854775808):b ^^^ 9223372036854775808=9223372036854775808+b:=by
 have h1:(b ^^^ 2 ^ 63) % 2 ^ 63=b:=by rw[Nat.xor_mod_two_pow]; simp; omega
 have h2:(b ^^^ 2 ^ 63) / 2 ^ 63=1:=by
  rw[Nat.xor_div_two_pow,Nat.div_eq_of_lt (by simpa using hb)]; decide
 have h3:=Nat.div_add_mod (b ^^^ 2 ^ 63) (2 ^ 63)
 rw[h1,h2] at h3
 simp only[show(2:Nat) ^ 63=9223372036854775808 by decide] at h3
 omega
theorem sgw_xor{s:Bool}{b:Nat}(hb:b≤GW+1):sgw s b ^^^ 9223372036854775808=sgw (!s) b:=by
 unfold GW at hb
 cases s
 ·exact xor_top b (by omega)
 ·show(9223372036854775808+b) ^^^ 9223372036854775808=b
  rw[←xor_top b (by omega),Nat.xor_assoc,Nat.xor_self,Nat.xor_zero]
theorem ex_sgw{s:Bool}{b:Nat}(hb:b≤GW):Exu (sgw s b) (sgv s b):=by
 have h:=ex_vv (fin_lt hb)
 cases s
 ·exact h
 ·have h2:=ex_neg (x:=b) (by unfold GW at hb; omega) h
  rw[show(2:Nat) ^ 63=9223372036854775808 by decide,xor_top b (by unfold GW at hb; omega)] at h2
  exact h2
theorem read_sgw(s:Bool){b:Nat}(hb:b<9223372036854775808):double.read (sgw s b)=rd s b:=by
 rw[read_rd]
 have h1:sgw s b % 9223372036854775808=b:=by unfold sgw; split<;>omega
 have h2:(sgw s b / 9223372036854775808 % 2 == 1)=s:=by
  cases s
  ·show(b / 9223372036854775808 % 2 == 1)=false
   rw[Nat.div_eq_of_lt hb]; rfl
  ·show((9223372036854775808+b) / 9223372036854775808 % 2 == 1)=true
   rw[show(9223372036854775808+b) / 9223372036854775808=1 by omega]; rfl
 rw[h1,h2]
theorem rd_inf(s:Bool):rd s (GW+1)=.infinity s:=by
 unfold rd GW
 rw[if_neg (by rw[bn]; decide),if_neg (by rw[ir]; decide),if_pos (by rw[ir])]
theorem rd_nan(s:Bool){b:Nat}(hb:GW+1<b):∃ k,rd s b=.nan s k:=by
 unfold GW at hb
 unfold rd
 rw[if_neg (by rw[bn]; omega),if_neg (by rw[ir]; omega),if_neg (by rw[ir]; omega)]
 exact⟨_,rfl⟩
theorem sgv_zero{s:Bool}{b:Nat}:sgv s b=0↔b=0:=by
 unfold sgv
 have h:VV b=0↔b=0:=by
  constructor
  ·intro h; exact VV_inj (h.trans (show VV 0=0 from rfl).symm)
  ·rintro rfl; rfl
 split
 ·rw[←h]; omega
 ·rw[←h]; omega
theorem sgv_abs{s:Bool}{b:Nat}:(sgv s b).natAbs=VV b:=by unfold sgv; split<;>simp
theorem ex_word{x:Nat}{s:Bool}{b:Nat}(h:Exu x (sgv s b))(h0:b≠0)(hx:x<18446744073709551616)(hb:b≤GW):x=sgw s b:=by
 have hv:0<VV b:=by
  rcases Nat.eq_zero_or_pos (VV b) with k|k
  ·exact absurd (VV_inj (k.trans (show VV 0=0 from rfl).symm)) h0
  ·exact k
 cases s
 ·exact vv_eq h hv hx
 ·have h2:=ex_neg (x:=x) hx h
  have e:-(sgv true b)=((VV b:Nat):Int):=by unfold sgv; simp
  rw[e] at h2
  have hlt:x ^^^ 2 ^ 63<18446744073709551616:=Nat.xor_lt_two_pow (n:=64) (by omega) (by decide)
  have h3:=vv_eq h2 hv hlt
  have h4:x=(x ^^^ 2 ^ 63) ^^^ 2 ^ 63:=by rw[Nat.xor_assoc,Nat.xor_self,Nat.xor_zero]
  rw[h4,h3]
  exact xor_top b (by unfold GW at hb; omega)
theorem sum_zero{s:Bool}{m:Nat}{e:Int}{t:Bool}{n:Nat}{j:Int}(h0:n=0):(Datum.number s m e).sum (.number t n j)=some (.number (if m=0 then s && t else s) (m*2 ^ (e - min e j).toNat) (min e j)):=by
 subst h0
 have e1:signed t 0 (j - min e j).toNat=0:=by rw[signed_eq]; simp
 show some (Datum.number _ _ _)=_
 rw[e1,Int.add_zero,signed_natAbs]
 congr 2
 rw[signed_eq]
 have hp:=Nat.two_pow_pos (e - min e j).toNat
 by_cases hm:m=0
 ·subst hm; simp
 ·have hpos:0<m*2 ^ (e - min e j).toNat:=Nat.mul_pos (by omega) hp
  rw[if_neg hm]
  generalize m*2 ^ (e - min e j).toNat=M at hpos ⊢
  cases s
  ·simp only[Bool.false_eq_true,if_false]
   rw[if_neg (by omega)]
   simp
  ·simp only[if_true]
   rw[if_neg (by omega)]
   simp; omega
theorem write_zero(s:Bool)(p:Int):double.write (.number s 0 p)=sgw s 0:=by
 show double.nearest s 0 p=_
 unfold Format.nearest
 rw[if_pos rfl]
 cases s<;>rfl
theorem rd_fin(s:Bool){b:Nat}(hb:b≤GW):∃ m e,rd s b=.number s m e∧-1074≤e∧m*2 ^ (e+1074).toNat=VV b:=by
 have h:=ex_sgw (s:=s) hb
 obtain⟨t,m,e,h1,h2,h3⟩:=h
 rw[read_sgw s (by unfold GW at hb; omega)] at h1
 have ht:t=s:=by
  unfold rd at h1
  by_cases c1:b<double.binade
  ·rw[if_pos c1] at h1; cases h1; rfl
  ·rw[if_neg c1,if_pos (by rw[ir]; unfold GW at hb; omega)] at h1; cases h1; rfl
 subst ht
 refine⟨m,e,h1,h2,?_⟩
 have:=congrArg Int.natAbs h3
 rwa[signed_natAbs,sgv_abs] at this
theorem rd0(t:Bool):rd t 0=.number t 0 (-1074):=by
 unfold rd; rw[if_pos (by rw[bn]; decide),lp]
theorem sum_word{s t:Bool}{b:Nat}(hb:b≤GW):((rd s b).sum (rd t 0)).map double.write=some (if b=0 then sgw (s && t) 0 else sgw s b):=by
 obtain⟨m,e,h1,h2,h3⟩:=rd_fin s hb
 rw[h1,rd0,sum_zero rfl]
 have hmin:min e (-1074)=-1074:=by omega
 rw[hmin,show(e - -1074)=e+1074 by omega,h3]
 show some _=_
 congr 1
 by_cases hz:b=0
 ·subst hz
  have hm:m=0:=by
   rcases Nat.eq_zero_or_pos m with h|h
   ·exact h
   ·have:=Nat.mul_pos h (Nat.two_pow_pos (e+1074).toNat)
    rw[h3] at this; exact absurd this (by decide)
  rw[if_pos hm,if_pos rfl,show VV 0=0 from rfl,write_zero]
 ·have hm:m≠0:=by
   rintro rfl
   rw[Nat.zero_mul] at h3
   exact hz (VV_inj (h3.symm.trans (show VV 0=0 from rfl).symm))
  rw[if_neg hm,if_neg hz]
  have hR:=rp_vv (fin_lt hb)
  have h:=write_exact s (VV b) (-1074) (VV b) (by simp) hR
  have hlt:double.write (.number s (VV b) (-1074))<18446744073709551616:=by
   have:=Ieee.Format.write
   show double.nearest s (VV b) (-1074)<_
   unfold Format.nearest
   by_cases hv:VV b=0
   ·rw[if_pos hv]; unfold Format.word; rw[sw]; split<;>omega
   ·rw[if_neg hv]
    dsimp only
    rw[ir]
    unfold Format.word; rw[sw]; split<;>omega
  exact ex_word h hz hlt hb
theorem add_zero{s:Bool}{b:Nat}(hb:b≤GW):double.add (sgw s b) 0=some (if b=0 then 0 else sgw s b):=by
 unfold Format.add
 rw[read_sgw s (by unfold GW at hb; omega),show double.read 0=rd false 0 from read_sgw false (by decide),sum_word hb,Bool.and_false]
 rfl
theorem sum_comm0(t:Bool){s:Bool}{b:Nat}(hb:b≤GW):(rd t 0).sum (rd s b)=(rd s b).sum (rd t 0):=by
 obtain⟨m,e,h1,h2,h3⟩:=rd_fin s hb
 rw[h1,rd0]
 show some (Datum.number _ _ _)=some (Datum.number _ _ _)
 rw[Int.min_comm,Int.add_comm,Bool.and_comm]
theorem zero_sub{s:Bool}{b:Nat}(hb:b≤GW):double.sub 0 (sgw s b)=some (if b=0 then sgw (!s && false) 0 else sgw (!s) b):=by
 unfold Format.sub
 rw[read_sgw s (by unfold GW at hb; omega),show double.read 0=rd false 0 from read_sgw false (by decide),←rd_not,sum_comm0 false hb,sum_word hb]
theorem ord_sgw{s t:Bool}{a b:Nat}(ha:a≤GW)(hb:b≤GW):double.order (sgw s a) (sgw t b)=some (compare (sgv s a) (sgv t b)):=order_exact (ex_sgw ha) (ex_sgw hb)
theorem ord_nan{s:Bool}{b:Nat}(hb:b<9223372036854775808):(double.order (sgw s b) (sgw s b) != some .eq)=decide (GW+1<b):=by
 rcases Nat.lt_trichotomy b (GW+1) with h|h|h
 ·rw[ord_self (ex_sgw (s:=s) (by omega))]; simp; omega
 ·subst h
  unfold Format.order
  rw[read_sgw s hb,rd_inf]
  cases s<;>simp[Datum.order]
 ·obtain⟨k,hk⟩:=rd_nan s h
  unfold Format.order
  rw[read_sgw s hb,hk]
  simp[Datum.order,h]
theorem ord_big{b:Nat}(hb:b<9223372036854775808):(double.order b 9218868437227405311 == some .gt)=decide (b=GW+1):=by
 rcases Nat.lt_trichotomy b (GW+1) with h|h|h
 ·rw[ord_fin (by omega)]; simp; omega
 ·subst h; rw[show GW+1=9218868437227405312 from rfl,ord_inf]; rfl
 ·obtain⟨k,hk⟩:=rd_nan false h
  unfold Format.order
  rw[show double.read b=rd false b from read_sgw false hb,hk]
  simp[Datum.order]; omega
end Tr
namespace Tr
open Ieee
theorem cmp_lt{a b:Int}(h:a<b):compare a b=.lt:=by rw[compare_int,if_pos h]
theorem cmp_gt{a b:Int}(h:b<a):compare a b=.gt:=by rw[compare_int,if_neg (by omega),if_neg (by omega)]
theorem ord_eq0{s:Bool}{b:Nat}(hb:b≤GW):(double.order (sgw s b) 0 == some .eq)=decide (b=0):=by
 rw[show(0:Nat)=sgw false 0 from rfl,ord_sgw hb (by unfold GW; omega),show sgw false 0=0 from rfl,show sgv false 0=0 from rfl]
 by_cases h:b=0
 ·have:=(sgv_zero (s:=s) (b:=b)).2 h
  rw[this,cmp_self]; simp[h]
 ·have:sgv s b≠0:=fun k=>h (sgv_zero.1 k)
  rcases Int.lt_or_le (sgv s b) 0 with k|k
  ·rw[cmp_lt k]; simp[h]
  ·rw[cmp_gt (by omega)]; simp[h]
theorem ord_lt0{b:Nat}(hb:b≤GW):(double.order (sgw false b) 0 == some .lt)=false:=by
 rw[show(0:Nat)=sgw false 0 from rfl,ord_sgw hb (by unfold GW; omega),show sgv false 0=0 from rfl]
 rcases Nat.eq_zero_or_pos (VV b) with h|h
 ·rw[show sgv false b=0 by show((VV b:Nat):Int)=0; omega,cmp_self]; rfl
 ·rw[cmp_gt (by show(0:Int)<((VV b:Nat):Int); omega)]; rfl
end Tr
namespace Go.Proofs.YthklnbaddobieaaGreat
open Go.RowKit Tr
theorem nfinite_any{s:Bool}{b:Nat}(hb:b<9223372036854775808)(w:World) :
  Calls Tryz.prog 37 #[.float .f64 (sgw s b)] w fun e w'=>e=.returned (.bool (decide (b≤GW)))∧w=w':=by
 have e0:sgw s b<2 ^ 64:=by unfold sgw; split<;>omega
 have em:sgw s b % 2 ^ 63=b:=by unfold sgw; split<;>omega
 have h1:=ord_nan (s:=s) hb
 have h2:=ord_big hb
 rcases Nat.lt_trichotomy b (GW+1) with h|h|h
 ·rw[show decide (GW+1<b)=false by simp; omega] at h1
  rw[show decide (b=GW+1)=false by simp; omega] at h2
  rw[show decide (b≤GW)=true by simp; omega]
  go_enter Tryz.func37,Tryz.ntmps37
  go_wp2_with (first|(go_at_call 97; refine(isnan_any _ _).mono ?_; rintro e w' ⟨rfl,rfl⟩; rw[h1])|(go_at_call 38; refine(isinf0_any e0 _).mono ?_; rintro e w' ⟨rfl,rfl⟩; rw[em,h2]))
  go_ret
  exact⟨rfl,rfl⟩
 ·rw[show decide (GW+1<b)=false by simp; omega] at h1
  rw[show decide (b=GW+1)=true by simp; omega] at h2
  rw[show decide (b≤GW)=false by simp; omega]
  clear h
  go_enter Tryz.func37,Tryz.ntmps37
  go_wp2_with (first|(go_at_call 97; refine(isnan_any _ _).mono ?_; rintro e w' ⟨rfl,rfl⟩; rw[h1])|(go_at_call 38; refine(isinf0_any e0 _).mono ?_; rintro e w' ⟨rfl,rfl⟩; rw[em,h2]))
  go_ret
  exact⟨rfl,rfl⟩
 ·rw[show decide (GW+1<b)=true by simp; omega] at h1
  rw[show decide (b≤GW)=false by simp; omega]
  clear h
  go_enter Tryz.func37,Tryz.ntmps37
  go_wp2_with (first|(go_at_call 97; refine(isnan_any _ _).mono ?_; rintro e w' ⟨rfl,rfl⟩; rw[h1]))
  go_ret
  exact⟨rfl,rfl⟩
theorem inf1_any(w:World):Calls Tryz.prog 102 #[.int .i64 1] w fun e w'=>e=.returned (.float .f64 9218868437227405312)∧w=w':=by
 have e2:=of_bits
 go_enter Tryz.func102,Tryz.ntmps102
 go_wp2
 go_ret
 exact⟨rfl,rfl⟩
end Go.Proofs.YthklnbaddobieaaGreat
namespace Tr
open Go
theorem and_pow(x i:Nat):x &&& 2 ^ i=if x.testBit i then 2 ^ i else 0:=by
 apply Nat.eq_of_testBit_eq
 intro j
 rw[Nat.testBit_and,Nat.testBit_two_pow]
 by_cases h:i=j
 ·subst h; cases hx:x.testBit i<;>simp
 ·cases hx:x.testBit i<;>simp[h]
theorem or63(S r:Nat)(hr:r<9223372036854775808):2 ^ 63*S ||| r=S*9223372036854775808+r:=by
 have h1:r<2 ^ 63:=by rw[show(2:Nat) ^ 63=9223372036854775808 by decide]; exact hr
 rw[←Nat.two_pow_add_eq_or_of_lt h1,show(2:Nat) ^ 63=9223372036854775808 by decide,Nat.mul_comm]
theorem or52(S r:Nat)(hr:r<4503599627370496):2 ^ 52*S ||| r=S*4503599627370496+r:=by
 have h1:r<2 ^ 52:=by rw[show(2:Nat) ^ 52=4503599627370496 by decide]; exact hr
 rw[←Nat.two_pow_add_eq_or_of_lt h1,show(2:Nat) ^ 52=4503599627370496 by decide,Nat.mul_comm]
theorem and_low(S r:Nat)(hS:S<2)(hr:r<9223372036854775808):(S*9223372036854775808+r) &&& 9227875636482146303=S*9223372036854775808+r % 4503599627370496:=by
 have e1:(9227875636482146303:Nat)=2 ^ 63 ||| (2 ^ 52 - 1):=by decide
 have e3:(S*9223372036854775808+r).testBit 63=decide (S=1):=by
  rw[Nat.testBit_eq_decide_div_mod_eq,show(2:Nat) ^ 63=9223372036854775808 by decide]
  have:(S*9223372036854775808+r) / 9223372036854775808=S:=by omega
  rw[this]
  have:S=0∨S=1:=by omega
  rcases this with rfl|rfl<;>rfl
 have e4:(if decide (S=1)=true then 2 ^ 63 else 0)=2 ^ 63*S:=by
  have:S=0∨S=1:=by omega
  rcases this with rfl|rfl<;>rfl
 have e5:(S*9223372036854775808+r) % 2 ^ 52=r % 4503599627370496:=by
  rw[show(2:Nat) ^ 52=4503599627370496 by decide]; omega
 rw[e1,Nat.and_or_distrib_left,Nat.and_two_pow_sub_one_eq_mod,and_pow,e3,e4,e5,or63 _ _ (by omega)]
theorem or_exp(S r x:Nat)(hr:r<4503599627370496)(hx:x<2048):(S*9223372036854775808+r) ||| (x*4503599627370496)=S*9223372036854775808+(x*4503599627370496+r):=by
 have e:x*4503599627370496=2 ^ 52*x:=by rw[show(2:Nat) ^ 52=4503599627370496 by decide,Nat.mul_comm]
 rw[←or63 S r (by omega),e,Nat.or_assoc,Nat.or_comm r,or52 _ _ hr,←Nat.mul_comm x,or63 _ _ (by omega),show(2:Nat) ^ 52=4503599627370496 by decide]
theorem i64_and2047(E:Nat)(hE:E<2048):bits .and .i64 (E:Int) 2047=(E:Int):=by
 have h1:(BitVec.ofInt 64 (E:Int)).toNat=E:=by
  rw[BitVec.ofInt_natCast,BitVec.toNat_ofNat]; exact Nat.mod_eq_of_lt (by omega)
 show IntKind.i64.wrap ((BitVec.ofInt 64 (E:Int) &&& BitVec.ofInt 64 (2047:Int)).toNat:Int)=_
 rw[BitVec.toNat_and,h1,show(BitVec.ofInt 64 (2047:Int)).toNat=2 ^ 11 - 1 by decide,Nat.and_two_pow_sub_one_eq_mod,Nat.mod_eq_of_lt (by simpa using hE),IntKind.wrap_i64]
 omega
theorem andNot_exp(S r:Nat)(hS:S<2)(hr:r<9223372036854775808):bits BinOp.andNot IntKind.u64 ((S*9223372036854775808+r:Nat):Int) 9218868437227405312=((S*9223372036854775808+r % 4503599627370496:Nat):Int):=by
 rw[u64_andNot _ _ (by omega) (by omega) (by omega) (by omega),Int.toNat_natCast,show 18446744073709551615 - Int.toNat 9218868437227405312=9227875636482146303 by decide,and_low S r hS hr]
theorem or_exp_i(S r x:Nat)(hS:S<2)(hr:r<4503599627370496)(hx:x<2048):bits BinOp.or IntKind.u64 ((S*9223372036854775808+r:Nat):Int) ((x*4503599627370496:Nat):Int)=((S*9223372036854775808+(x*4503599627370496+r):Nat):Int):=by
 rw[bits_or_u64_nat _ _ (by omega) (by omega),or_exp S r x hr hx]
end Tr
namespace Go.Proofs.YthklnbaddobieaaGreat
open Go.RowKit Tr
theorem ab_any{s:Bool}{b:Nat}(hb:b<9223372036854775808)(w:World) :
  Calls Tryz.prog 98 #[.float .f64 (sgw s b)] w fun e w'=>e=.returned (.float .f64 b)∧w=w':=by
 have e0:sgw s b<2 ^ 64:=by unfold sgw; split<;>omega
 have em:sgw s b % 2 ^ 63=b:=by unfold sgw; split<;>omega
 have:=abs_any e0 w
 rwa[em] at this
theorem normalize_n{s:Bool}{b:Nat}(hb:b≤GW)(h:4503599627370496≤b)(w:World) :
  Calls Tryz.prog 206 #[.float .f64 (sgw s b)] w fun e w'=>e=.returned (.tuple #[.float .f64 (sgw s b),.int .i64 0])∧w=w':=by
 have h1:(FloatKind.f64.format.order b 4503599627370496 == some .lt)=decide (b<4503599627370496):=ord_small hb
 rw[show decide (b<4503599627370496)=false by simp; omega] at h1
 have hb2:b<9223372036854775808:=by unfold GW at hb; omega
 clear hb
 go_enter Tryz.func206,Tryz.ntmps206
 go_wp2_with (go_at_call 98; refine(ab_any hb2 _).mono ?_; rintro e w' ⟨rfl,rfl⟩)
 refine bodyPost_ret (v:=.tuple #[.float .f64 (sgw s b),.int .i64 0]) (by kernel_rfl) rfl ⟨rfl,rfl⟩
set_option maxRecDepth 100000 in
theorem ldexp_hi{fb:Nat}(E r:Nat)(e:Int)(hfb:fb=E*4503599627370496+r)(hr:r<4503599627370496)(hE:1023≤E)(hE2:E≤1076)(he:-1074≤e)(he2:e≤100000)(hi:2046<e+E)(w:World) :
  Calls Tryz.prog 159 #[.float .f64 fb,.int .i64 e] w fun r w'=>r=.returned (.float .f64 9218868437227405312)∧w=w':=by
 have hle:fb≤GW:=by unfold GW; omega
 have e1:=bits_of fb
 have e2:bits BinOp.and IntKind.i64 ((fb:Int) / 4503599627370496) 2047=(E:Int):=by
  rw[show((fb:Int) / 4503599627370496)=(E:Int) by omega]; exact i64_and2047 E (by omega)
 have h1:=ord_self (ex_sgw (s:=false) hle)
 have h2:=ord_fin hle
 have h3:(FloatKind.f64.format.order (sgw false fb) 0 == some .eq)=decide (fb=0):=ord_eq0 (s:=false) hle
 have h6:(FloatKind.f64.format.order (sgw false fb) 0 == some .lt)=false:=ord_lt0 hle
 rw[show decide (fb=0)=false by simp; omega] at h3
 rw[show sgw false fb=fb from rfl] at *
 have hn:=normalize_n (s:=false) hle (by omega) w
 rw[show sgw false fb=fb from rfl] at hn
 have h4:fb % 2 ^ 63=fb:=by unfold GW at hle; omega
 have h5:fb<2 ^ 64:=by omega
 have HN:=Lib.hid hn
 have HI:=Lib.hid inf1_any
 clear hn hle hfb
 go_enter Tryz.func159,Tryz.ntmps159
 go_wp2_with (first|(go_at_call 97; refine(isnan_any _ _).mono ?_; rintro e w' ⟨rfl,rfl⟩; rw[h1])|(go_at_call 38; refine(isinf0_any h5 _).mono ?_; rintro e w' ⟨rfl,rfl⟩; rw[h4,h2])|(go_at_call 206; refine HN.out.mono ?_; rintro e w' ⟨rfl,rfl⟩)|(go_at_call 102; refine(HI.out _).mono ?_; rintro e w' ⟨rfl,rfl⟩))
 go_ret
 exact⟨rfl,rfl⟩
set_option maxRecDepth 100000 in
theorem ldexp_mid{fb:Nat}(E r:Nat)(e:Int)(x v:Nat)(hx:(x:Int)=e+E)(hfb:fb=E*4503599627370496+r)(hr:r<4503599627370496)(hE:1023≤E)(hE2:E≤1076)(hi:x≤2046)(hl:1≤x)(hv:VOp .mul 4607182418800017408 (x*4503599627370496+r) v)(w:World) :
  Calls Tryz.prog 159 #[.float .f64 fb,.int .i64 e] w fun r w'=>r=.returned (.float .f64 v)∧w=w':=by
 have hle:fb≤GW:=by unfold GW; omega
 have e1:=bits_of
 have e0:=of_bits
 have e2:bits BinOp.and IntKind.i64 ((fb:Int) / 4503599627370496) 2047=(E:Int):=by
  rw[show((fb:Int) / 4503599627370496)=(E:Int) by omega]; exact i64_and2047 E (by omega)
 have e3:=andNot_exp 0 fb (by decide) (by omega)
 rw[Nat.zero_mul,Nat.zero_add,Nat.zero_add,show fb % 4503599627370496=r by omega] at e3
 have e4:=or_exp_i 0 r x (by decide) hr (by omega)
 rw[Nat.zero_mul,Nat.zero_add,Nat.zero_add] at e4
 have e5:bits BinOp.or IntKind.u64 (r:Int) ((e+((E:Int) - 1023)+1023)*4503599627370496)=((x*4503599627370496+r:Nat):Int):=by
  rw[←e4]; congr 1; omega
 obtain⟨W,hW⟩:∃ W,W=x*4503599627370496+r:=⟨_,rfl⟩
 rw[←hW] at e5 hv
 have r4:=fun w=>hv.run (P:=Tryz.prog) 28 w
 have h1:=ord_self (ex_sgw (s:=false) hle)
 have h2:=ord_fin hle
 have h3:(FloatKind.f64.format.order (sgw false fb) 0 == some .eq)=decide (fb=0):=ord_eq0 (s:=false) hle
 rw[show decide (fb=0)=false by simp; omega] at h3
 rw[show sgw false fb=fb from rfl] at *
 have hn:=normalize_n (s:=false) hle (by omega) w
 rw[show sgw false fb=fb from rfl] at hn
 have h4:fb % 2 ^ 63=fb:=by unfold GW at hle; omega
 have h5:fb<2 ^ 64:=by omega
 have HN:=Lib.hid hn
 have b1:e+E≤2046:=by omega
 have b2:1≤e+E:=by omega
 clear hn hle hfb hx hi hl e4 hW
 go_enter Tryz.func159,Tryz.ntmps159
 go_wp2_with (first|(go_at_call 97; refine(isnan_any _ _).mono ?_; rintro e w' ⟨rfl,rfl⟩; rw[h1])|(go_at_call 38; refine(isinf0_any h5 _).mono ?_; rintro e w' ⟨rfl,rfl⟩; rw[h4,h2])|(go_at_call 206; refine HN.out.mono ?_; rintro e w' ⟨rfl,rfl⟩))
 go_ret
 exact⟨rfl,rfl⟩
set_option maxRecDepth 100000 in
theorem ldexp_low{fb:Nat}(E r:Nat)(e:Int)(x v:Nat)(hx:(x:Int)=e+E+53)(hfb:fb=E*4503599627370496+r)(hr:r<4503599627370496)(hE:1023≤E)(hE2:E≤1076)(he:-1074≤e)(hi:e+E<1)(hv:VOp .mul 4368491638549381120 (x*4503599627370496+r) v)(w:World) :
  Calls Tryz.prog 159 #[.float .f64 fb,.int .i64 e] w fun r w'=>r=.returned (.float .f64 v)∧w=w':=by
 have hle:fb≤GW:=by unfold GW; omega
 have e1:=bits_of
 have e0:=of_bits
 have e2:bits BinOp.and IntKind.i64 ((fb:Int) / 4503599627370496) 2047=(E:Int):=by
  rw[show((fb:Int) / 4503599627370496)=(E:Int) by omega]; exact i64_and2047 E (by omega)
 have e3:=andNot_exp 0 fb (by decide) (by omega)
 rw[Nat.zero_mul,Nat.zero_add,Nat.zero_add,show fb % 4503599627370496=r by omega] at e3
 have e4:=or_exp_i 0 r x (by decide) hr (by omega)
 rw[Nat.zero_mul,Nat.zero_add,Nat.zero_add] at e4
 have e5:bits BinOp.or IntKind.u64 (r:Int) ((e+((E:Int) - 1023)+53+1023)*4503599627370496)=((x*4503599627370496+r:Nat):Int):=by
  rw[←e4]; congr 1; omega
 obtain⟨W,hW⟩:∃ W,W=x*4503599627370496+r:=⟨_,rfl⟩
 rw[←hW] at e5 hv
 have r4:=fun w=>hv.run (P:=Tryz.prog) 28 w
 have h1:=ord_self (ex_sgw (s:=false) hle)
 have h2:=ord_fin hle
 have h3:(FloatKind.f64.format.order (sgw false fb) 0 == some .eq)=decide (fb=0):=ord_eq0 (s:=false) hle
 rw[show decide (fb=0)=false by simp; omega] at h3
 rw[show sgw false fb=fb from rfl] at *
 have hn:=normalize_n (s:=false) hle (by omega) w
 rw[show sgw false fb=fb from rfl] at hn
 have h4:fb % 2 ^ 63=fb:=by unfold GW at hle; omega
 have h5:fb<2 ^ 64:=by omega
 have HN:=Lib.hid hn
 clear hn hle hfb hx e4 hW
 go_enter Tryz.func159,Tryz.ntmps159
 go_wp2_with (first|(go_at_call 97; refine(isnan_any _ _).mono ?_; rintro e w' ⟨rfl,rfl⟩; rw[h1])|(go_at_call 38; refine(isinf0_any h5 _).mono ?_; rintro e w' ⟨rfl,rfl⟩; rw[h4,h2])|(go_at_call 206; refine HN.out.mono ?_; rintro e w' ⟨rfl,rfl⟩))
 go_ret
 exact⟨rfl,rfl⟩
theorem ldexp_zero(e:Int)(w:World):Calls Tryz.prog 159 #[.float .f64 0,.int .i64 e] w fun r w'=>r=.returned (.float .f64 0)∧w=w':=by
 have h3:(FloatKind.f64.format.order (sgw false 0) 0 == some .eq)=decide (0=0):=ord_eq0 (s:=false) (by decide)
 rw[show sgw false 0=0 from rfl] at h3
 go_enter Tryz.func159,Tryz.ntmps159
 go_wp2
 go_ret
 exact⟨rfl,rfl⟩
theorem Ldexp_zero(e:Int)(w:World):Calls Tryz.prog 95 #[.float .f64 0,.int .i64 e] w fun r w'=>r=.returned (.float .f64 0)∧w=w':=by
 go_enter Tryz.func95,Tryz.ntmps95
 go_wp2_with (go_at_call 159; refine(ldexp_zero _ _).mono ?_; rintro e w' ⟨rfl,rfl⟩)
 go_ret
 exact⟨rfl,rfl⟩
end Go.Proofs.YthklnbaddobieaaGreat
