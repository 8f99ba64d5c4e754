/- Laws for the walk. -/
import Derived.Test.YthklnbaddobieaaGreatUad
set_option linter.unusedVariables false
set_option maxHeartbeats 4000000
namespace Tr
open Ieee
def sgw(s:Bool)(b:Nat):Nat:=if s then 9223372036854775808+b else b
def sgv(s:Bool)(b:Nat):Int:=if s then -((VV b:Nat):Int) else((VV b:Nat):Int)
theorem sgw_lt{s:Bool}{b:Nat}(hb:b≤GW):sgw s b<18446744073709551616:=by unfold GW at hb; unfold sgw; split<;>omega
theorem sgw_mod{s:Bool}{b:Nat}(hb:b≤GW+1):sgw s b % 9223372036854775808=b:=by unfold GW at hb; unfold sgw; split<;>omega
theorem xor_top(b:Nat)(hb:b<9223372036854775808):b ^^^ 9223372036854775808=9223372036854775808+b:=by
 have h1:(b ^^^ 2 ^ 63) % 2 ^ 63=b:=by rw[Nat.xor_mod_two_pow]; simp; omega
 have h2:(b ^^^ 2 ^ 63) / 2 ^ 63=1:=by
  rw[Nat.xor_div_two_pow,Nat.div_eq_of_lt (by simpa using hb)]; decide
 have h3:=Nat.div_add_mod (b ^^^ 2 ^ 63) (2 ^ 63)
 rw[h1,h2] at h3
 simp only[show(2:Nat) ^ 63=9223372036854775808 by decide] at h3
 omega
theorem sgw_xor{s:Bool}{b:Nat}(hb:b≤GW+1):sgw s b ^^^ 9223372036854775808=sgw (!s) b:=by
 unfold GW at hb
 cases s
 ·exact xor_top b (by omega)
 ·show(9223372036854775808+b) ^^^ 9223372036854775808=b
  rw[←xor_top b (by omega),Nat.xor_assoc,Nat.xor_self,Nat.xor_zero]
theorem ex_sgw{s:Bool}{b:Nat}(hb:b≤GW):Exu (sgw s b) (sgv s b):=by
 have h:=ex_vv (fin_lt hb)
 cases s
 ·exact h
 ·have h2:=ex_neg (x:=b) (by unfold GW at hb; omega) h
  rw[show(2:Nat) ^ 63=9223372036854775808 by decide,xor_top b (by unfold GW at hb; omega)] at h2
  exact h2
theorem word_cases{x:Nat}(hx:x<18446744073709551616):∃ s b,x=sgw s b∧b<9223372036854775808:=by
 rcases Nat.lt_or_ge x 9223372036854775808 with h|h
 ·exact⟨false,x,rfl,h⟩
 ·exact⟨true,x - 9223372036854775808,by show x=9223372036854775808+_; omega,by omega⟩
theorem read_sgw(s:Bool){b:Nat}(hb:b<9223372036854775808):double.read (sgw s b)=rd s b:=by
 rw[read_rd]
 have h1:sgw s b % 9223372036854775808=b:=by unfold sgw; split<;>omega
 have h2:(sgw s b / 9223372036854775808 % 2 == 1)=s:=by
  cases s
  ·show(b / 9223372036854775808 % 2 == 1)=false
   rw[Nat.div_eq_of_lt hb]; rfl
  ·show((9223372036854775808+b) / 9223372036854775808 % 2 == 1)=true
   rw[show(9223372036854775808+b) / 9223372036854775808=1 by omega]; rfl
 rw[h1,h2]
theorem rd_inf(s:Bool):rd s (GW+1)=.infinity s:=by
 unfold rd GW
 rw[if_neg (by rw[bn]; decide),if_neg (by rw[ir]; decide),if_pos (by rw[ir])]
theorem rd_nan(s:Bool){b:Nat}(hb:GW+1<b):∃ k,rd s b=.nan s k:=by
 unfold GW at hb
 unfold rd
 rw[if_neg (by rw[bn]; omega),if_neg (by rw[ir]; omega),if_neg (by rw[ir]; omega)]
 exact⟨_,rfl⟩
theorem sgv_zero{s:Bool}{b:Nat}:sgv s b=0↔b=0:=by
 unfold sgv
 have h:VV b=0↔b=0:=by
  constructor
  ·intro h; exact VV_inj (h.trans (show VV 0=0 from rfl).symm)
  ·rintro rfl; rfl
 split
 ·rw[←h]; omega
 ·rw[←h]; omega
theorem sgv_abs{s:Bool}{b:Nat}:(sgv s b).natAbs=VV b:=by unfold sgv; split<;>simp
theorem ex_word{x:Nat}{s:Bool}{b:Nat}(h:Exu x (sgv s b))(h0:b≠0)(hx:x<18446744073709551616)(hb:b≤GW):x=sgw s b:=by
 have hv:0<VV b:=by
  rcases Nat.eq_zero_or_pos (VV b) with k|k
  ·exact absurd (VV_inj (k.trans (show VV 0=0 from rfl).symm)) h0
  ·exact k
 cases s
 ·exact vv_eq h hv hx
 ·have h2:=ex_neg (x:=x) hx h
  have e:-(sgv true b)=((VV b:Nat):Int):=by unfold sgv; simp
  rw[e] at h2
  have hlt:x ^^^ 2 ^ 63<18446744073709551616:=Nat.xor_lt_two_pow (n:=64) (by omega) (by decide)
  have h3:=vv_eq h2 hv hlt
  have h4:x=(x ^^^ 2 ^ 63) ^^^ 2 ^ 63:=by rw[Nat.xor_assoc,Nat.xor_self,Nat.xor_zero]
  rw[h4,h3]
  exact xor_top b (by unfold GW at hb; omega)
theorem sum_zero{s:Bool}{m:Nat}{e:Int}{t:Bool}{n:Nat}{j:Int}(h0:n=0):(Datum.number s m e).sum (.number t n j)=some (.number (if m=0 then s && t else s) (m*2 ^ (e - min e j).toNat) (min e j)):=by
 subst h0
 have e1:signed t 0 (j - min e j).toNat=0:=by rw[signed_eq]; simp
 show some (Datum.number _ _ _)=_
 rw[e1,Int.add_zero,signed_natAbs]
 congr 2
 rw[signed_eq]
 have hp:=Nat.two_pow_pos (e - min e j).toNat
 by_cases hm:m=0
 ·subst hm; simp
 ·have hpos:0<m*2 ^ (e - min e j).toNat:=Nat.mul_pos (by omega) hp
  rw[if_neg hm]
  generalize m*2 ^ (e - min e j).toNat=M at hpos ⊢
  cases s
  ·simp only[Bool.false_eq_true,if_false]
   rw[if_neg (by omega)]
   simp
  ·simp only[if_true]
   rw[if_neg (by omega)]
   simp; omega
theorem write_zero(s:Bool)(p:Int):double.write (.number s 0 p)=sgw s 0:=by
 show double.nearest s 0 p=_
 unfold Format.nearest
 rw[if_pos rfl]
 cases s<;>rfl
theorem rd_fin(s:Bool){b:Nat}(hb:b≤GW):∃ m e,rd s b=.number s m e∧-1074≤e∧m*2 ^ (e+1074).toNat=VV b:=by
 have h:=ex_sgw (s:=s) hb
 obtain⟨t,m,e,h1,h2,h3⟩:=h
 rw[read_sgw s (by unfold GW at hb; omega)] at h1
 have ht:t=s:=by
  unfold rd at h1
  by_cases c1:b<double.binade
  ·rw[if_pos c1] at h1; cases h1; rfl
  ·rw[if_neg c1,if_pos (by rw[ir]; unfold GW at hb; omega)] at h1; cases h1; rfl
 subst ht
 refine⟨m,e,h1,h2,?_⟩
 have:=congrArg Int.natAbs h3
 rwa[signed_natAbs,sgv_abs] at this
theorem rd0(t:Bool):rd t 0=.number t 0 (-1074):=by
 unfold rd; rw[if_pos (by rw[bn]; decide),lp]
theorem sum_word{s t:Bool}{b:Nat}(hb:b≤GW):((rd s b).sum (rd t 0)).map double.write=some (if b=0 then sgw (s && t) 0 else sgw s b):=by
 obtain⟨m,e,h1,h2,h3⟩:=rd_fin s hb
 rw[h1,rd0,sum_zero rfl]
 have hmin:min e (-1074)=-1074:=by omega
 rw[hmin,show(e - -1074)=e+1074 by omega,h3]
 show some _=_
 congr 1
 by_cases hz:b=0
 ·subst hz
  have hm:m=0:=by
   rcases Nat.eq_zero_or_pos m with h|h
   ·exact h
   ·have:=Nat.mul_pos h (Nat.two_pow_pos (e+1074).toNat)
    rw[h3] at this; exact absurd this (by decide)
  rw[if_pos hm,if_pos rfl,show VV 0=0 from rfl,write_zero]
 ·have hm:m≠0:=by
   rintro rfl
   rw[Nat.zero_mul] at h3
   exact hz (VV_inj (h3.symm.trans (show VV 0=0 from rfl).symm))
  rw[if_neg hm,if_neg hz]
  have hR:=rp_vv (fin_lt hb)
  have h:=write_exact s (VV b) (-1074) (VV b) (by simp) hR
  have hlt:double.write (.number s (VV b) (-1074))<18446744073709551616:=by
   have:=Ieee.Format.write
   show double.nearest s (VV b) (-1074)<_
   unfold Format.nearest
   by_cases hv:VV b=0
   ·rw[if_pos hv]; unfold Format.word; rw[sw]; split<;>omega
   ·rw[if_neg hv]
    dsimp only
    rw[ir]
    unfold Format.word; rw[sw]; split<;>omega
  exact ex_word h hz hlt hb
theorem add_zero{s:Bool}{b:Nat}(hb:b≤GW):double.add (sgw s b) 0=some (if b=0 then 0 else sgw s b):=by
 unfold Format.add
 rw[read_sgw s (by unfold GW at hb; omega),show double.read 0=rd false 0 from read_sgw false (by decide),sum_word hb,Bool.and_false]
 rfl
theorem sum_comm0(t:Bool){s:Bool}{b:Nat}(hb:b≤GW):(rd t 0).sum (rd s b)=(rd s b).sum (rd t 0):=by
 obtain⟨m,e,h1,h2,h3⟩:=rd_fin s hb
 rw[h1,rd0]
 show some (Datum.number _ _ _)=some (Datum.number _ _ _)
 rw[Int.min_comm,Int.add_comm,Bool.and_comm]
theorem zero_sub{s:Bool}{b:Nat}(hb:b≤GW):double.sub 0 (sgw s b)=some (if b=0 then sgw (!s && false) 0 else sgw (!s) b):=by
 unfold Format.sub
 rw[read_sgw s (by unfold GW at hb; omega),show double.read 0=rd false 0 from read_sgw false (by decide),←rd_not,sum_comm0 false hb,sum_word hb]
theorem ord_sgw{s t:Bool}{a b:Nat}(ha:a≤GW)(hb:b≤GW):double.order (sgw s a) (sgw t b)=some (compare (sgv s a) (sgv t b)):=order_exact (ex_sgw ha) (ex_sgw hb)
theorem ord_nan{s:Bool}{b:Nat}(hb:b<9223372036854775808):(double.order (sgw s b) (sgw s b) != some .eq)=decide (GW+1<b):=by
 rcases Nat.lt_trichotomy b (GW+1) with h|h|h
 ·rw[ord_self (ex_sgw (s:=s) (by omega))]; simp; omega
 ·subst h
  unfold Format.order
  rw[read_sgw s hb,rd_inf]
  cases s<;>simp[Datum.order]
 ·obtain⟨k,hk⟩:=rd_nan s h
  unfold Format.order
  rw[read_sgw s hb,hk]
  simp[Datum.order,h]
theorem ord_big{b:Nat}(hb:b<9223372036854775808):(double.order b 9218868437227405311 == some .gt)=decide (b=GW+1):=by
 rcases Nat.lt_trichotomy b (GW+1) with h|h|h
 ·rw[ord_fin (by omega)]; simp; omega
 ·subst h; rw[show GW+1=9218868437227405312 from rfl,ord_inf]; rfl
 ·obtain⟨k,hk⟩:=rd_nan false h
  unfold Format.order
  rw[show double.read b=rd false b from read_sgw false hb,hk]
  simp[Datum.order]; omega
end Tr
namespace Tr
open Ieee
theorem VV_GW_pos:0<VV GW:=by
 have:=VV_mono (a:=0) (b:=GW) (by unfold GW; omega)
 rw[show VV 0=0 from rfl] at this; exact this
theorem VV_pos{b:Nat}(h:b≠0):0<VV b:=by
 have:=VV_mono (a:=0) (b:=b) (by omega)
 rw[show VV 0=0 from rfl] at this; exact this
theorem cmp_lt{a b:Int}(h:a<b):compare a b=.lt:=by rw[compare_int,if_pos h]
theorem cmp_gt{a b:Int}(h:b<a):compare a b=.gt:=by rw[compare_int,if_neg (by omega),if_neg (by omega)]
theorem inf_gt{s:Bool}{b:Nat}(hb:b≤GW+1):(double.order (sgw s b) 9218868437227405311 == some .gt)=(!s && decide (b=GW+1)):=by
 cases s
 ·show(double.order b 9218868437227405311 == some .gt)=_
  rw[ord_big (by unfold GW at hb; omega),Bool.not_false,Bool.true_and]
 ·rcases Nat.lt_or_ge GW b with h|h
  ·have:b=GW+1:=by omega
   subst this; decide +kernel
  ·show(double.order (sgw true b) (sgw false GW) == some .gt)=_
   rw[ord_sgw h (Nat.le_refl _),cmp_lt (by show -((VV b:Nat):Int)<((VV GW:Nat):Int); have:=VV_GW_pos; omega)]
   rfl
theorem ord_eq_inf{s:Bool}{b:Nat}(hb:b≤GW):(double.order (sgw s b) 9218868437227405312 == some .eq)=false:=by
 unfold Format.order
 obtain⟨m,e,h,_⟩:=rd_fin s hb
 rw[read_sgw s (by unfold GW at hb; omega),h,show double.read 9218868437227405312=.infinity false from by decide +kernel]
 rfl
theorem ord_inf_gt{s:Bool}{b:Nat}(hb:b≤GW):(double.order 9218868437227405312 (sgw s b) == some .gt)=true:=by
 unfold Format.order
 obtain⟨m,e,h,_⟩:=rd_fin s hb
 rw[read_sgw s (by unfold GW at hb; omega),h,show double.read 9218868437227405312=.infinity false from by decide +kernel]
 rfl
theorem ord_eq0{s:Bool}{b:Nat}(hb:b≤GW):(double.order (sgw s b) 0 == some .eq)=decide (b=0):=by
 rw[show(0:Nat)=sgw false 0 from rfl,ord_sgw hb (by unfold GW; omega),show sgw false 0=0 from rfl,show sgv false 0=0 from rfl]
 by_cases h:b=0
 ·have:=(sgv_zero (s:=s) (b:=b)).2 h
  rw[this,cmp_self]; simp[h]
 ·have:sgv s b≠0:=fun k=>h (sgv_zero.1 k)
  rcases Int.lt_or_le (sgv s b) 0 with k|k
  ·rw[cmp_lt k]; simp[h]
  ·rw[cmp_gt (by omega)]; simp[h]
theorem ord_gt0{s:Bool}{b:Nat}(hb:b≤GW)(h0:b≠0):(double.order (sgw s b) 0 == some .gt)=!s:=by
 have hv:=VV_pos h0
 rw[show(0:Nat)=sgw false 0 from rfl,ord_sgw hb (by unfold GW; omega),show sgv false 0=0 from rfl]
 cases s
 ·rw[cmp_gt (by show(0:Int)<((VV b:Nat):Int); omega)]; rfl
 ·rw[cmp_lt (by show -((VV b:Nat):Int)<0; omega)]; rfl
theorem ord_lt0{b:Nat}(hb:b≤GW):(double.order (sgw false b) 0 == some .lt)=false:=by
 rw[show(0:Nat)=sgw false 0 from rfl,ord_sgw hb (by unfold GW; omega),show sgv false 0=0 from rfl]
 rcases Nat.eq_zero_or_pos (VV b) with h|h
 ·rw[show sgv false b=0 by show((VV b:Nat):Int)=0; omega,cmp_self]; rfl
 ·rw[cmp_gt (by show(0:Int)<((VV b:Nat):Int); omega)]; rfl
def nxW(s:Bool)(b:Nat):Nat:=if b=0 then 1 else if s then sgw true (b - 1) else b+1
end Tr
namespace Go.Proofs.YthklnbaddobieaaGreat
open Go.RowKit Tr
theorem isinf1_any{s:Bool}{b:Nat}(hb:b≤GW+1)(w:World) :
  Calls Tryz.prog 38 #[.float .f64 (sgw s b),.int .i64 1] w fun e w'=>e=.returned (.bool (!s && decide (b=GW+1)))∧w=w':=by
 have e1:(FloatKind.f64.format.order (sgw s b) 9218868437227405311 == some .gt)=(!s && decide (b=GW+1)):=inf_gt (s:=s) hb
 go_enter Tryz.func38,Tryz.ntmps38
 go_wp2
 go_ret
 exact⟨by rw[←e1]; rfl,rfl⟩
theorem isinfm_any{s:Bool}{b:Nat}(hb:b≤GW+1)(w:World) :
  Calls Tryz.prog 38 #[.float .f64 (sgw s b),.int .i64 (-1)] w fun e w'=>e=.returned (.bool (s && decide (b=GW+1)))∧w=w':=by
 have e1:=inf_gt (s:=!s) hb
 rw[Bool.not_not,←sgw_xor hb] at e1
 have e2:(FloatKind.f64.format.order (flip (sgw s b)) 9218868437227405311 == some .gt)=(s && decide (b=GW+1)):=e1
 have hn:=unary_neg
 clear e1 hb
 go_enter Tryz.func38,Tryz.ntmps38
 go_wp2
 go_ret
 exact⟨by rw[←e2]; rfl,rfl⟩
theorem nfinite_any{s:Bool}{b:Nat}(hb:b<9223372036854775808)(w:World) :
  Calls Tryz.prog 37 #[.float .f64 (sgw s b)] w fun e w'=>e=.returned (.bool (decide (b≤GW)))∧w=w':=by
 have e0:sgw s b<2 ^ 64:=by unfold sgw; split<;>omega
 have em:sgw s b % 2 ^ 63=b:=by unfold sgw; split<;>omega
 have h1:=ord_nan (s:=s) hb
 have h2:=ord_big hb
 rcases Nat.lt_trichotomy b (GW+1) with h|h|h
 ·rw[show decide (GW+1<b)=false by simp; omega] at h1
  rw[show decide (b=GW+1)=false by simp; omega] at h2
  rw[show decide (b≤GW)=true by simp; omega]
  go_enter Tryz.func37,Tryz.ntmps37
  go_wp2_with (first|(go_at_call 97; refine(isnan_any _ _).mono ?_; rintro e w' ⟨rfl,rfl⟩; rw[h1])|(go_at_call 38; refine(isinf0_any e0 _).mono ?_; rintro e w' ⟨rfl,rfl⟩; rw[em,h2]))
  go_ret
  exact⟨rfl,rfl⟩
 ·rw[show decide (GW+1<b)=false by simp; omega] at h1
  rw[show decide (b=GW+1)=true by simp; omega] at h2
  rw[show decide (b≤GW)=false by simp; omega]
  clear h
  go_enter Tryz.func37,Tryz.ntmps37
  go_wp2_with (first|(go_at_call 97; refine(isnan_any _ _).mono ?_; rintro e w' ⟨rfl,rfl⟩; rw[h1])|(go_at_call 38; refine(isinf0_any e0 _).mono ?_; rintro e w' ⟨rfl,rfl⟩; rw[em,h2]))
  go_ret
  exact⟨rfl,rfl⟩
 ·rw[show decide (GW+1<b)=true by simp; omega] at h1
  rw[show decide (b≤GW)=false by simp; omega]
  clear h
  go_enter Tryz.func37,Tryz.ntmps37
  go_wp2_with (first|(go_at_call 97; refine(isnan_any _ _).mono ?_; rintro e w' ⟨rfl,rfl⟩; rw[h1]))
  go_ret
  exact⟨rfl,rfl⟩
theorem inf1_any(w:World):Calls Tryz.prog 102 #[.int .i64 1] w fun e w'=>e=.returned (.float .f64 9218868437227405312)∧w=w':=by
 have e2:=of_bits
 go_enter Tryz.func102,Tryz.ntmps102
 go_wp2
 go_ret
 exact⟨rfl,rfl⟩
theorem copysign_1(w:World):Calls Tryz.prog 165 #[.float .f64 1,.float .f64 9218868437227405312] w fun e w'=>e=.returned (.float .f64 1)∧w=w':=by
 have e1:=bits_of
 have e2:=of_bits
 go_enter Tryz.func165,Tryz.ntmps165
 go_wp2
 go_ret
 exact⟨rfl,rfl⟩
theorem nextafter_any{s:Bool}{b:Nat}(hb:b≤GW)(w:World) :
  Calls Tryz.prog 101 #[.float .f64 (sgw s b),.float .f64 9218868437227405312] w fun e w'=>e=.returned (.float .f64 (nxW s b))∧w=w':=by
 have e1:=bits_of
 have e2:=of_bits
 have hl:=sgw_lt (s:=s) hb
 have h1:=ord_self (ex_sgw (s:=s) hb)
 have h2:=ord_inf_self
 have h3:(FloatKind.f64.format.order (sgw s b) 9218868437227405312 == some .eq)=false:=ord_eq_inf (s:=s) hb
 have h4:(FloatKind.f64.format.order (sgw s b) 0 == some .eq)=decide (b=0):=ord_eq0 (s:=s) hb
 have h5:(FloatKind.f64.format.order 9218868437227405312 (sgw s b) == some .gt)=true:=ord_inf_gt (s:=s) hb
 by_cases h0:b=0
 ·rw[show decide (b=0)=true by simp[h0]] at h4
  rw[show nxW s b=1 by unfold nxW; rw[if_pos h0]]
  clear h0 hb
  go_enter Tryz.func101,Tryz.ntmps101
  go_wp2_with (first|(go_at_call 97; refine(isnan_any _ _).mono ?_; rintro e w' ⟨rfl,rfl⟩; first|rw[h1]|rw[h2])|(go_at_call 165; refine(copysign_1 _).mono ?_; rintro e w' ⟨rfl,rfl⟩))
  go_ret
  exact⟨rfl,rfl⟩
 ·have h6:(FloatKind.f64.format.order (sgw s b) 0 == some .gt)=!s:=ord_gt0 (s:=s) hb h0
  rw[show decide (b=0)=false by simp[h0]] at h4
  have hb2:b<9218868437227405312:=by unfold GW at hb; omega
  cases s
  ·rw[show nxW false b=b+1 by unfold nxW; rw[if_neg h0]; rfl]
   rw[show sgw false b=b from rfl] at *
   have e3:((b:Int)+1).toNat=b+1:=by omega
   have e4:IntKind.u64.wrap ((b:Int)+1)=(b:Int)+1:=by rw[IntKind.wrap_u64]; omega
   clear hb
   go_enter Tryz.func101,Tryz.ntmps101
   go_wp2_with (first|(go_at_call 97; refine(isnan_any _ _).mono ?_; rintro e w' ⟨rfl,rfl⟩; first|rw[h1]|rw[h2]))
   go_ret
   refine⟨?_,rfl⟩
   show Ending.returned (Value.float .f64 ((b:Int)+1).toNat)=_
   rw[e3]
  ·rw[show nxW true b=sgw true (b - 1) by unfold nxW; rw[if_neg h0]; rfl]
   have e3:((sgw true b:Nat):Int) - 1=((sgw true (b - 1):Nat):Int):=by unfold sgw; simp only[if_true]; omega
   have e4:IntKind.u64.wrap (((sgw true b:Nat):Int) - 1)=((sgw true b:Nat):Int) - 1:=by rw[IntKind.wrap_u64,e3]; unfold sgw; simp only[if_true]; omega
   clear hb
   go_enter Tryz.func101,Tryz.ntmps101
   go_wp2_with (first|(go_at_call 97; refine(isnan_any _ _).mono ?_; rintro e w' ⟨rfl,rfl⟩; first|rw[h1]|rw[h2]))
   go_ret
   exact⟨rfl,rfl⟩
theorem next_any{s:Bool}{b:Nat}(hb:b≤GW)(w:World) :
  Calls Tryz.prog 41 #[.float .f64 (sgw s b)] w fun e w'=>e=.returned (.float .f64 (nxW s b))∧w=w':=by
 go_enter Tryz.func41,Tryz.ntmps41
 go_wp2_with (first|(go_at_call 102; refine(inf1_any _).mono ?_; rintro e w' ⟨rfl,rfl⟩)|(go_at_call 101; refine(nextafter_any hb _).mono ?_; rintro e w' ⟨rfl,rfl⟩))
 go_ret
 exact⟨rfl,rfl⟩
end Go.Proofs.YthklnbaddobieaaGreat
namespace Tr
open Go
theorem and_pow(x i:Nat):x &&& 2 ^ i=if x.testBit i then 2 ^ i else 0:=by
 apply Nat.eq_of_testBit_eq
 intro j
 rw[Nat.testBit_and,Nat.testBit_two_pow]
 by_cases h:i=j
 ·subst h; cases hx:x.testBit i<;>simp
 ·cases hx:x.testBit i<;>simp[h]
theorem or63(S r:Nat)(hr:r<9223372036854775808):2 ^ 63*S ||| r=S*9223372036854775808+r:=by
 have h1:r<2 ^ 63:=by rw[show(2:Nat) ^ 63=9223372036854775808 by decide]; exact hr
 rw[←Nat.two_pow_add_eq_or_of_lt h1,show(2:Nat) ^ 63=9223372036854775808 by decide,Nat.mul_comm]
theorem or52(S r:Nat)(hr:r<4503599627370496):2 ^ 52*S ||| r=S*4503599627370496+r:=by
 have h1:r<2 ^ 52:=by rw[show(2:Nat) ^ 52=4503599627370496 by decide]; exact hr
 rw[←Nat.two_pow_add_eq_or_of_lt h1,show(2:Nat) ^ 52=4503599627370496 by decide,Nat.mul_comm]
theorem and_low(S r:Nat)(hS:S<2)(hr:r<9223372036854775808):(S*9223372036854775808+r) &&& 9227875636482146303=S*9223372036854775808+r % 4503599627370496:=by
 have e1:(9227875636482146303:Nat)=2 ^ 63 ||| (2 ^ 52 - 1):=by decide
 have e3:(S*9223372036854775808+r).testBit 63=decide (S=1):=by
  rw[Nat.testBit_eq_decide_div_mod_eq,show(2:Nat) ^ 63=9223372036854775808 by decide]
  have:(S*9223372036854775808+r) / 9223372036854775808=S:=by omega
  rw[this]
  have:S=0∨S=1:=by omega
  rcases this with rfl|rfl<;>rfl
 have e4:(if decide (S=1)=true then 2 ^ 63 else 0)=2 ^ 63*S:=by
  have:S=0∨S=1:=by omega
  rcases this with rfl|rfl<;>rfl
 have e5:(S*9223372036854775808+r) % 2 ^ 52=r % 4503599627370496:=by
  rw[show(2:Nat) ^ 52=4503599627370496 by decide]; omega
 rw[e1,Nat.and_or_distrib_left,Nat.and_two_pow_sub_one_eq_mod,and_pow,e3,e4,e5,or63 _ _ (by omega)]
theorem or_exp(S r x:Nat)(hr:r<4503599627370496)(hx:x<2048):(S*9223372036854775808+r) ||| (x*4503599627370496)=S*9223372036854775808+(x*4503599627370496+r):=by
 have e:x*4503599627370496=2 ^ 52*x:=by rw[show(2:Nat) ^ 52=4503599627370496 by decide,Nat.mul_comm]
 rw[←or63 S r (by omega),e,Nat.or_assoc,Nat.or_comm r,or52 _ _ hr,←Nat.mul_comm x,or63 _ _ (by omega),show(2:Nat) ^ 52=4503599627370496 by decide]
theorem i64_and2047(E:Nat)(hE:E<2048):bits .and .i64 (E:Int) 2047=(E:Int):=by
 have h1:(BitVec.ofInt 64 (E:Int)).toNat=E:=by
  rw[BitVec.ofInt_natCast,BitVec.toNat_ofNat]; exact Nat.mod_eq_of_lt (by omega)
 show IntKind.i64.wrap ((BitVec.ofInt 64 (E:Int) &&& BitVec.ofInt 64 (2047:Int)).toNat:Int)=_
 rw[BitVec.toNat_and,h1,show(BitVec.ofInt 64 (2047:Int)).toNat=2 ^ 11 - 1 by decide,Nat.and_two_pow_sub_one_eq_mod,Nat.mod_eq_of_lt (by simpa using hE),IntKind.wrap_i64]
 omega
theorem u64_and2047(E:Nat)(hE:E<18446744073709551616):bits .and .u64 (E:Int) 2047=((E % 2048:Nat):Int):=by
 have:=bits_and_u64_nat E 2047 hE (by decide)
 rw[show((2047:Nat):Int)=2047 from rfl] at this
 rw[this,show(2047:Nat)=2 ^ 11 - 1 by decide,Nat.and_two_pow_sub_one_eq_mod]
theorem andNot_exp(S r:Nat)(hS:S<2)(hr:r<9223372036854775808):bits BinOp.andNot IntKind.u64 ((S*9223372036854775808+r:Nat):Int) 9218868437227405312=((S*9223372036854775808+r % 4503599627370496:Nat):Int):=by
 rw[u64_andNot _ _ (by omega) (by omega) (by omega) (by omega),Int.toNat_natCast,show 18446744073709551615 - Int.toNat 9218868437227405312=9227875636482146303 by decide,and_low S r hS hr]
theorem or_exp_i(S r x:Nat)(hS:S<2)(hr:r<4503599627370496)(hx:x<2048):bits BinOp.or IntKind.u64 ((S*9223372036854775808+r:Nat):Int) ((x*4503599627370496:Nat):Int)=((S*9223372036854775808+(x*4503599627370496+r):Nat):Int):=by
 rw[bits_or_u64_nat _ _ (by omega) (by omega),or_exp S r x hr hx]
end Tr
namespace Go.Proofs.YthklnbaddobieaaGreat
open Go.RowKit Tr
theorem ab_any{s:Bool}{b:Nat}(hb:b<9223372036854775808)(w:World) :
  Calls Tryz.prog 98 #[.float .f64 (sgw s b)] w fun e w'=>e=.returned (.float .f64 b)∧w=w':=by
 have e0:sgw s b<2 ^ 64:=by unfold sgw; split<;>omega
 have em:sgw s b % 2 ^ 63=b:=by unfold sgw; split<;>omega
 have:=abs_any e0 w
 rwa[em] at this
theorem normalize_n{s:Bool}{b:Nat}(hb:b≤GW)(h:4503599627370496≤b)(w:World) :
  Calls Tryz.prog 206 #[.float .f64 (sgw s b)] w fun e w'=>e=.returned (.tuple #[.float .f64 (sgw s b),.int .i64 0])∧w=w':=by
 have h1:(FloatKind.f64.format.order b 4503599627370496 == some .lt)=decide (b<4503599627370496):=ord_small hb
 rw[show decide (b<4503599627370496)=false by simp; omega] at h1
 have hb2:b<9223372036854775808:=by unfold GW at hb; omega
 clear hb
 go_enter Tryz.func206,Tryz.ntmps206
 go_wp2_with (go_at_call 98; refine(ab_any hb2 _).mono ?_; rintro e w' ⟨rfl,rfl⟩)
 refine bodyPost_ret (v:=.tuple #[.float .f64 (sgw s b),.int .i64 0]) (by kernel_rfl) rfl ⟨rfl,rfl⟩
set_option maxRecDepth 100000 in
theorem ldexp_hi{fb:Nat}(E r:Nat)(e:Int)(hfb:fb=E*4503599627370496+r)(hr:r<4503599627370496)(hE:1023≤E)(hE2:E≤1076)(he:-1074≤e)(he2:e≤100000)(hi:2046<e+E)(w:World) :
  Calls Tryz.prog 159 #[.float .f64 fb,.int .i64 e] w fun r w'=>r=.returned (.float .f64 9218868437227405312)∧w=w':=by
 have hle:fb≤GW:=by unfold GW; omega
 have e1:=bits_of fb
 have e2:bits BinOp.and IntKind.i64 ((fb:Int) / 4503599627370496) 2047=(E:Int):=by
  rw[show((fb:Int) / 4503599627370496)=(E:Int) by omega]; exact i64_and2047 E (by omega)
 have h1:=ord_self (ex_sgw (s:=false) hle)
 have h2:=ord_fin hle
 have h3:(FloatKind.f64.format.order (sgw false fb) 0 == some .eq)=decide (fb=0):=ord_eq0 (s:=false) hle
 have h6:(FloatKind.f64.format.order (sgw false fb) 0 == some .lt)=false:=ord_lt0 hle
 rw[show decide (fb=0)=false by simp; omega] at h3
 rw[show sgw false fb=fb from rfl] at *
 have hn:=normalize_n (s:=false) hle (by omega) w
 rw[show sgw false fb=fb from rfl] at hn
 have h4:fb % 2 ^ 63=fb:=by unfold GW at hle; omega
 have h5:fb<2 ^ 64:=by omega
 have HN:=Lib.hid hn
 have HI:=Lib.hid inf1_any
 clear hn hle hfb
 go_enter Tryz.func159,Tryz.ntmps159
 go_wp2_with (first|(go_at_call 97; refine(isnan_any _ _).mono ?_; rintro e w' ⟨rfl,rfl⟩; rw[h1])|(go_at_call 38; refine(isinf0_any h5 _).mono ?_; rintro e w' ⟨rfl,rfl⟩; rw[h4,h2])|(go_at_call 206; refine HN.out.mono ?_; rintro e w' ⟨rfl,rfl⟩)|(go_at_call 102; refine(HI.out _).mono ?_; rintro e w' ⟨rfl,rfl⟩))
 go_ret
 exact⟨rfl,rfl⟩
set_option maxRecDepth 100000 in
theorem ldexp_mid{fb:Nat}(E r:Nat)(e:Int)(x v:Nat)(hx:(x:Int)=e+E)(hfb:fb=E*4503599627370496+r)(hr:r<4503599627370496)(hE:1023≤E)(hE2:E≤1076)(hi:x≤2046)(hl:1≤x)(hv:VOp .mul 4607182418800017408 (x*4503599627370496+r) v)(w:World) :
  Calls Tryz.prog 159 #[.float .f64 fb,.int .i64 e] w fun r w'=>r=.returned (.float .f64 v)∧w=w':=by
 have hle:fb≤GW:=by unfold GW; omega
 have e1:=bits_of
 have e0:=of_bits
 have e2:bits BinOp.and IntKind.i64 ((fb:Int) / 4503599627370496) 2047=(E:Int):=by
  rw[show((fb:Int) / 4503599627370496)=(E:Int) by omega]; exact i64_and2047 E (by omega)
 have e3:=andNot_exp 0 fb (by decide) (by omega)
 rw[Nat.zero_mul,Nat.zero_add,Nat.zero_add,show fb % 4503599627370496=r by omega] at e3
 have e4:=or_exp_i 0 r x (by decide) hr (by omega)
 rw[Nat.zero_mul,Nat.zero_add,Nat.zero_add] at e4
 have e5:bits BinOp.or IntKind.u64 (r:Int) ((e+((E:Int) - 1023)+1023)*4503599627370496)=((x*4503599627370496+r:Nat):Int):=by
  rw[←e4]; congr 1; omega
 obtain⟨W,hW⟩:∃ W,W=x*4503599627370496+r:=⟨_,rfl⟩
 rw[←hW] at e5 hv
 have r4:=fun w=>hv.run (P:=Tryz.prog) 28 w
 have h1:=ord_self (ex_sgw (s:=false) hle)
 have h2:=ord_fin hle
 have h3:(FloatKind.f64.format.order (sgw false fb) 0 == some .eq)=decide (fb=0):=ord_eq0 (s:=false) hle
 rw[show decide (fb=0)=false by simp; omega] at h3
 rw[show sgw false fb=fb from rfl] at *
 have hn:=normalize_n (s:=false) hle (by omega) w
 rw[show sgw false fb=fb from rfl] at hn
 have h4:fb % 2 ^ 63=fb:=by unfold GW at hle; omega
 have h5:fb<2 ^ 64:=by omega
 have HN:=Lib.hid hn
 have b1:e+E≤2046:=by omega
 have b2:1≤e+E:=by omega
 clear hn hle hfb hx hi hl e4 hW
 go_enter Tryz.func159,Tryz.ntmps159
 go_wp2_with (first|(go_at_call 97; refine(isnan_any _ _).mono ?_; rintro e w' ⟨rfl,rfl⟩; rw[h1])|(go_at_call 38; refine(isinf0_any h5 _).mono ?_; rintro e w' ⟨rfl,rfl⟩; rw[h4,h2])|(go_at_call 206; refine HN.out.mono ?_; rintro e w' ⟨rfl,rfl⟩))
 go_ret
 exact⟨rfl,rfl⟩
set_option maxRecDepth 100000 in
theorem ldexp_low{fb:Nat}(E r:Nat)(e:Int)(x v:Nat)(hx:(x:Int)=e+E+53)(hfb:fb=E*4503599627370496+r)(hr:r<4503599627370496)(hE:1023≤E)(hE2:E≤1076)(he:-1074≤e)(hi:e+E<1)(hv:VOp .mul 4368491638549381120 (x*4503599627370496+r) v)(w:World) :
  Calls Tryz.prog 159 #[.float .f64 fb,.int .i64 e] w fun r w'=>r=.returned (.float .f64 v)∧w=w':=by
 have hle:fb≤GW:=by unfold GW; omega
 have e1:=bits_of
 have e0:=of_bits
 have e2:bits BinOp.and IntKind.i64 ((fb:Int) / 4503599627370496) 2047=(E:Int):=by
  rw[show((fb:Int) / 4503599627370496)=(E:Int) by omega]; exact i64_and2047 E (by omega)
 have e3:=andNot_exp 0 fb (by decide) (by omega)
 rw[Nat.zero_mul,Nat.zero_add,Nat.zero_add,show fb % 4503599627370496=r by omega] at e3
 have e4:=or_exp_i 0 r x (by decide) hr (by omega)
 rw[Nat.zero_mul,Nat.zero_add,Nat.zero_add] at e4
 have e5:bits BinOp.or IntKind.u64 (r:Int) ((e+((E:Int) - 1023)+53+1023)*4503599627370496)=((x*4503599627370496+r:Nat):Int):=by
  rw[←e4]; congr 1; omega
 obtain⟨W,hW⟩:∃ W,W=x*4503599627370496+r:=⟨_,rfl⟩
 rw[←hW] at e5 hv
 have r4:=fun w=>hv.run (P:=Tryz.prog) 28 w
 have h1:=ord_self (ex_sgw (s:=false) hle)
 have h2:=ord_fin hle
 have h3:(FloatKind.f64.format.order (sgw false fb) 0 == some .eq)=decide (fb=0):=ord_eq0 (s:=false) hle
 rw[show decide (fb=0)=false by simp; omega] at h3
 rw[show sgw false fb=fb from rfl] at *
 have hn:=normalize_n (s:=false) hle (by omega) w
 rw[show sgw false fb=fb from rfl] at hn
 have h4:fb % 2 ^ 63=fb:=by unfold GW at hle; omega
 have h5:fb<2 ^ 64:=by omega
 have HN:=Lib.hid hn
 clear hn hle hfb hx e4 hW
 go_enter Tryz.func159,Tryz.ntmps159
 go_wp2_with (first|(go_at_call 97; refine(isnan_any _ _).mono ?_; rintro e w' ⟨rfl,rfl⟩; rw[h1])|(go_at_call 38; refine(isinf0_any h5 _).mono ?_; rintro e w' ⟨rfl,rfl⟩; rw[h4,h2])|(go_at_call 206; refine HN.out.mono ?_; rintro e w' ⟨rfl,rfl⟩))
 go_ret
 exact⟨rfl,rfl⟩
theorem ldexp_zero(e:Int)(w:World):Calls Tryz.prog 159 #[.float .f64 0,.int .i64 e] w fun r w'=>r=.returned (.float .f64 0)∧w=w':=by
 have h3:(FloatKind.f64.format.order (sgw false 0) 0 == some .eq)=decide (0=0):=ord_eq0 (s:=false) (by decide)
 rw[show sgw false 0=0 from rfl] at h3
 go_enter Tryz.func159,Tryz.ntmps159
 go_wp2
 go_ret
 exact⟨rfl,rfl⟩
theorem Ldexp_zero(e:Int)(w:World):Calls Tryz.prog 95 #[.float .f64 0,.int .i64 e] w fun r w'=>r=.returned (.float .f64 0)∧w=w':=by
 go_enter Tryz.func95,Tryz.ntmps95
 go_wp2_with (go_at_call 159; refine(ldexp_zero _ _).mono ?_; rintro e w' ⟨rfl,rfl⟩)
 go_ret
 exact⟨rfl,rfl⟩
end Go.Proofs.YthklnbaddobieaaGreat
namespace Tr
open Ieee
theorem mul_lt64{x y r:Nat}(h:double.mul x y=some r):r<18446744073709551616:=by
 unfold Format.mul at h
 rcases hp:(double.read x).product (double.read y) with _|d
 ·rw[hp] at h; cases h
 ·rw[hp] at h
  cases h
  exact Go.FloatKind.f64.format.write_lt d
theorem vvpos{B m:Nat}{t:Nat}(hm:0<m)(hB:VV B=m*2 ^ t):0<VV B:=by rw[hB]; exact Nat.mul_pos hm (Nat.two_pow_pos _)
theorem min_gw{B:Nat}(h:B<9218868437227405312):min B (GW+1)=B:=by unfold GW; omega
theorem min_gw2{B:Nat}(h:9218868437227405312≤B):min B (GW+1)=9218868437227405312:=by unfold GW; omega
theorem bt_succ{L k:Nat}(h:4503599627370496≤k):Bt L k=(L+1)*4503599627370496+(k - 4503599627370496):=by unfold Bt; omega
theorem sum_exp(L:Nat)(e:Int)(he:-1074≤e)(hl:0≤e+L):L+(e+1074).toNat=(e+L).toNat+UU:=by rw[UU_eq]; omega
theorem shift_eq{k L m:Nat}{e:Int}(hv:k*2 ^ L=m*2 ^ UU)(he:-1074≤e)(hl:0≤e+L):m*2 ^ (e+1074).toNat=k*2 ^ (e+L).toNat:=by
 have e4:=sum_exp L e he hl
 refine Nat.eq_of_mul_eq_mul_right (Nat.two_pow_pos UU) ?_
 have e2:m*2 ^ (e+1074).toNat*2 ^ UU=m*2 ^ UU*2 ^ (e+1074).toNat:=Nat.mul_right_comm _ _ _
 have e3:2 ^ L*2 ^ (e+1074).toNat=2 ^ (e+L).toNat*2 ^ UU:=by
  rw[←Nat.pow_add,←Nat.pow_add,e4]
 rw[e2,←hv,Nat.mul_assoc,e3,Nat.mul_assoc]
theorem bt_hi{x k:Nat}(hk:4503599627370496≤k)(d:2045<x):9218868437227405312≤Bt x k:=by unfold Bt; omega
theorem bt_lo{x k:Nat}(hk:k<9007199254740992)(d:x≤2045):Bt x k<9218868437227405312:=by unfold Bt; omega
theorem ldexp_ways {fb m B : Nat} {e : Int} (hm : 0 < m) (hm2 : m ≤ 9007199254740992) (hfb : Exu fb ((m * 2 ^ UU : Nat) : Int)) (hf : fb < 18446744073709551616) (he : -1074 ≤ e) (hB : VV B = m * 2 ^ (e + 1074).toNat) :
    ∃ E r,fb=E*4503599627370496+r∧r<4503599627370496∧1023≤E∧E≤1076 ∧
      ((2046<e+E∧min B (GW+1)=9218868437227405312) ∨
       (∃ x:Nat,(x:Int)=e+E∧x≤2046∧1≤x∧double.mul 4607182418800017408 (x*4503599627370496+r)=some (min B (GW+1))) ∨
       (∃ x:Nat,(x:Int)=e+E+53∧e+E<1∧double.mul 4368491638549381120 (x*4503599627370496+r)=some (min B (GW+1)))):=by
  obtain⟨L,k,e1,k1,k2,l1,l2,hv⟩:=ld_bits hm hm2 hfb hf
  have hfb2:fb=(L+1)*4503599627370496+(k - 4503599627370496):=by rw[e1,bt_succ k1]
  have hpos:=vvpos hm hB
  have hr:k - 4503599627370496<4503599627370496:=by clear hB hfb hv; omega
  refine⟨L+1,k - 4503599627370496,hfb2,hr,by clear hB hfb hv; omega,by clear hB hfb hv; omega,?_⟩
  rcases Int.lt_or_le (e+L) 0 with c|c
  · obtain⟨v,hmul,hx⟩:=mul_low hm hm2 k1 k2 l1 hv he c
    rw[bt_succ k1] at hmul
    rw[←hB] at hx
    have hvl:=mul_lt64 hmul
    have hvB:=vv_eq hx hpos hvl
    obtain⟨hlt,_⟩:=ex_pos hx (by exact_mod_cast hpos) hvl
    rw[hvB] at hmul hlt
    refine .inr (.inr ⟨(e+L+53).toNat+1,?_,?_,by rw[hmul,min_gw hlt]⟩)
    · clear hB hfb hv hx; omega
    · clear hB hfb hv hx; omega
  · have hBb : B = Bt (e + L).toNat k := by
      apply VV_inj
      rw[hB,VV_bt ⟨k2,.inr k1⟩]
      exact shift_eq hv he c
    rcases Int.lt_or_le 2045 (e+L) with d|d
    · refine .inl ⟨by clear hB hfb hv; omega,?_⟩
      rw[hBb]
      exact min_gw2 (bt_hi k1 (by clear hB hfb hv; omega))
    · have hlt:B<9218868437227405312:=by rw[hBb]; exact bt_lo k2 (by clear hB hfb hv; omega)
      obtain⟨v,hmul,hx⟩:=mul_one_vv hlt
      have hvB:=vv_eq hx hpos (mul_lt64 hmul)
      rw[hvB] at hmul
      refine .inr (.inl ⟨(e+L).toNat+1,?_,?_,?_,?_⟩)
      · clear hB hfb hv hx; omega
      · clear hB hfb hv hx; omega
      · clear hB hfb hv hx; omega
      · rw[←bt_succ k1,←hBb,hmul,min_gw hlt]
def fq(s:Bool)(b:Nat):Rat:=((sgv s b:Int):Rat) / ((2 ^ UU:Nat):Rat)
theorem uu_ne:((2 ^ UU:Nat):Rat)≠0:=Rat.ne_of_gt (two_pos UU)
theorem fq_neg(s:Bool)(b:Nat):fq (!s) b=-fq s b:=by
 unfold fq sgv
 cases s
 ·simp only[Bool.not_false,if_true,Bool.false_eq_true,if_false,Rat.intCast_neg]; grind
 ·simp only[Bool.not_true,Bool.false_eq_true,if_false,if_true,Rat.intCast_neg]; grind
theorem pred_succ(L:Nat):L+1 - 1=L:=by omega
theorem k_split{k:Nat}(h:4503599627370496≤k):4503599627370496+(k - 4503599627370496)=k:=by omega
theorem frexp_parts{b:Nat}(hb:b≤GW)(h:4503599627370496≤b):∃ E r,b=E*4503599627370496+r∧r<4503599627370496∧1≤E∧E≤2046∧VV b=(4503599627370496+r)*2 ^ (E - 1):=by
 obtain⟨L,k,e1,k1,k2,l⟩:=norm_of hb h
 refine⟨L+1,k - 4503599627370496,by rw[e1,bt_succ k1],by omega,by omega,by omega,?_⟩
 rw[k_split k1,pred_succ,e1,VV_bt ⟨k2,.inr k1⟩]
theorem sgv_mul{s:Bool}{b c:Nat}{p u:Int}(h:((VV b:Nat):Int)*p=((VV c:Nat):Int)*u):sgv s b*p=sgv s c*u:=by
 unfold sgv
 cases s
 ·simpa using h
 ·simp only[if_true,Int.neg_mul,h]
theorem sub_val{b x:Nat}(hb:b<4503599627370496)(hV:VV x=b*4503599627370496):((VV b:Nat):Int)*((4503599627370496*2 ^ UU:Nat):Int)=((VV x:Nat):Int)*2 ^ UU:=by
 have hVb:VV b=b:=by unfold VV; rw[if_pos hb]
 rw[pow_int,←Int.natCast_mul,←Int.natCast_mul,hV,hVb,Nat.mul_assoc]
theorem sub_parts{s:Bool}{b:Nat}(h0:b≠0)(hb:b<4503599627370496):∃ c E r,double.mul (sgw s b) 4841369599423283200=some (sgw s c)∧c≤GW∧c=E*4503599627370496+r∧r<4503599627370496∧1≤E∧E≤52∧b*4503599627370496=(4503599627370496+r)*2 ^ (E - 1):=by
 have hbG:b≤GW:=by unfold GW; omega
 obtain⟨x,hm,hx⟩:=sub_mul hb
 obtain⟨L,k,e1,k1,k2,l,hv⟩:=sub_norm (by omega) hb hx (mul_lt64 hm)
 have hc:x=(L+1)*4503599627370496+(k - 4503599627370496):=by rw[e1,bt_succ k1]
 have hxG:x≤GW:=by clear hv hx hm; unfold GW; omega
 have hVx:VV x=b*4503599627370496:=by rw[e1,VV_bt ⟨k2,.inr k1⟩,hv]
 have hx0:x≠0:=by clear hv hx hm; omega
 refine⟨x,L+1,k - 4503599627370496,?_,hxG,hc,?_,?_,?_,?_⟩
 ·have hR:Rp (sgv s x).natAbs:=by rw[sgv_abs]; exact rp_vv (fin_lt hxG)
  obtain⟨r,hr,hxr⟩:=mul_exact (c:=sgv s x) (ex_sgw (s:=s) hbG) two52_ex (sgv_mul (sub_val hb hVx)) hR
  rw[hr,ex_word hxr hx0 (mul_lt64 hr) hxG]
 ·clear hv hx hm; omega
 ·clear hv hx hm; omega
 ·clear hv hx hm; omega
 ·rw[←hv,k_split k1,pred_succ]
theorem one_53:(2:Nat) ^ UU=2 ^ (UU - 53)*9007199254740992:=by
 rw[show(9007199254740992:Nat)=2 ^ 53 by decide,←Nat.pow_add]
 exact congrArg _ (by rw[UU_eq])
def sgk(s:Bool)(k:Nat):Int:=if s then -((k:Nat):Int) else((k:Nat):Int)
theorem frac53{s:Bool}{r:Nat}(hr:r<4503599627370496):∃ x,double.mul (sgw s (1022*4503599627370496+r)) 4845873199050653696=some x∧Exu x (sgk s (4503599627370496+r)*2 ^ UU):=by
 have hk:4503599627370496≤4503599627370496+r:=by omega
 have hk2:4503599627370496+r<9007199254740992:=by omega
 have hb:Bt (UU - 53) (4503599627370496+r)=1022*4503599627370496+r:=by unfold Bt; rw[UU_eq]; omega
 have hG:1022*4503599627370496+r≤GW:=by unfold GW; omega
 have hV:VV (1022*4503599627370496+r)=(4503599627370496+r)*2 ^ (UU - 53):=by rw[←hb,VV_bt ⟨hk2,.inr hk⟩]
 generalize 1022*4503599627370496+r=c at *
 generalize 4503599627370496+r=k at *
 clear hb
 have e1:=one_53
 have key:VV c*(9007199254740992*2 ^ UU)=k*2 ^ UU*2 ^ UU:=by
  rw[hV]
  generalize (2:Nat) ^ (UU - 53)=a at *
  generalize (2:Nat) ^ UU=u at *
  subst e1
  simp only[Nat.mul_assoc]
 refine mul_exact (ex_sgw (s:=s) hG) two53_ex ?_ ?_
 ·have key2:((VV c:Nat):Int)*((9007199254740992*2 ^ UU:Nat):Int)=((k:Nat):Int)*2 ^ UU*2 ^ UU:=by
   rw[pow_int,←Int.natCast_mul,←Int.natCast_mul,←Int.natCast_mul,key]
  generalize ((9007199254740992*2 ^ UU:Nat):Int)=p at *
  generalize (2:Int) ^ UU=u at *
  unfold sgv sgk
  cases s
  ·simpa using key2
  ·simp only[if_true,Int.neg_mul,key2]
 ·have:(sgk s k*2 ^ UU).natAbs=k*2 ^ UU:=by
   rw[Int.natAbs_mul,natAbs_two_pow]
   unfold sgk
   cases s<;>simp
  rw[this]
  exact⟨k,UU,rfl,hk2,by rw[UU_eq]; decide⟩
theorem fq_sgk{s:Bool}{b:Nat}{x y:Nat}(hy:((y:Nat):Rat)≠0)(h:VV b*y=x*2 ^ UU):fq s b=((sgk s x:Int):Rat) / ((y:Nat):Rat):=by
 have h1:((VV b:Nat):Rat)*((y:Nat):Rat)=((x:Nat):Rat)*((2 ^ UU:Nat):Rat):=by
  rw[←Rat.natCast_mul,←Rat.natCast_mul,h]
 have hu:=uu_ne
 unfold fq sgv sgk
 generalize ((2 ^ UU:Nat):Rat)=u at *
 generalize ((y:Nat):Rat)=z at *
 have e1:(((VV b:Nat):Int):Rat)=((VV b:Nat):Rat):=rfl
 have e2:(((x:Nat):Int):Rat)=((x:Nat):Rat):=rfl
 cases s
 ·simp only[Bool.false_eq_true,if_false,e1,e2]
  generalize ((VV b:Nat):Rat)=a at *
  generalize ((x:Nat):Rat)=c at *
  grind
 ·simp only[if_true,Rat.intCast_neg,e1,e2]
  generalize ((VV b:Nat):Rat)=a at *
  generalize ((x:Nat):Rat)=c at *
  grind
def UT:Nat:=1126
theorem UT_eq:UT=1126:=rfl
theorem uu_split(d:Nat):2 ^ (d+UT)=2 ^ d*2 ^ UU*4503599627370496:=by
 rw[show(4503599627370496:Nat)=2 ^ 52 by decide,←Nat.pow_add,←Nat.pow_add]
 exact congrArg _ (by rw[UU_eq,UT_eq])
theorem fq_hi{s:Bool}{b k d:Nat}(h:VV b*2 ^ 52=k*2 ^ (d+UT)):fq s b=((sgk s k*2 ^ d:Int):Rat):=by
 have h2:VV b*1=(k*2 ^ d)*2 ^ UU:=by
  rw[uu_split,show(2:Nat) ^ 52=4503599627370496 by decide] at h
  refine Nat.eq_of_mul_eq_mul_right (show 0<4503599627370496 by decide) ?_
  rw[Nat.mul_one,h]
  simp only[Nat.mul_assoc]
 rw[fq_sgk (s:=s) (by simp) h2]
 have:sgk s (k*2 ^ d)=sgk s k*2 ^ d:=by
  unfold sgk
  cases s<;>simp[Int.neg_mul]
 rw[this]
 generalize ((sgk s k*2 ^ d:Int):Rat)=z
 show z / 1=z
 grind
theorem fq_lo{s:Bool}{b k t j:Nat}(hj:j+t=UT)(h:VV b*2 ^ 52=k*2 ^ j):fq s b=Rat.divInt (sgk s k) ((2 ^ t:Nat):Int):=by
 have h2:VV b*2 ^ t=k*2 ^ UU:=by
  refine Nat.eq_of_mul_eq_mul_right (show 0<4503599627370496 by decide) ?_
  have e1:VV b*2 ^ t*4503599627370496=VV b*2 ^ 52*2 ^ t:=by
   rw[show(4503599627370496:Nat)=2 ^ 52 by decide]; exact Nat.mul_right_comm _ _ _
  have e2:=uu_split 0
  rw[Nat.zero_add,Nat.pow_zero,Nat.one_mul] at e2
  rw[e1,h,Nat.mul_assoc,←Nat.pow_add,hj,e2,Nat.mul_assoc]
 rw[fq_sgk (s:=s) (Rat.ne_of_gt (two_pos t)) h2,Rat.divInt_eq_div]
 rfl
theorem mul_zero53(s:Bool):double.mul (sgw s 0) 4845873199050653696=some (sgw s 0):=by cases s<;>decide +kernel
end Tr
