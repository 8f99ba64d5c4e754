/- Laws for the walk. -/
import Derived.Test.YthklnbaddobieaaGreatZae
import Derived.Test.YthklnbaddobieaaGreatZam
set_option linter.unusedVariables false
set_option maxHeartbeats 4000000
namespace Tr
open Go
def sbit(s:Bool):Nat:=if s then 1 else 0
theorem sbit_lt(s:Bool):sbit s<2:=by cases s<;>decide
theorem sgw_S(s:Bool)(b:Nat):sgw s b=sbit s*9223372036854775808+b:=by cases s<;>simp[sgw,sbit]
theorem frexp_bits{s:Bool}{c E r:Nat}(hc:c=E*4503599627370496+r)(hr:r<4503599627370496)(hE:E≤2046) :
  bits .and .u64 (((sgw s c:Nat):Int) / 4503599627370496) 2047=(E:Int) ∧
  ∃ Y:Nat,bits .andNot .u64 ((sgw s c:Nat):Int) 9218868437227405312=(Y:Int)∧bits .or .u64 (Y:Int) 4602678819172646912=((sgw s (1022*4503599627370496+r):Nat):Int):=by
 have hS:=sbit_lt s
 refine⟨?_,sbit s*9223372036854775808+r,?_,?_⟩
 ·have e1:(((sgw s c:Nat):Int) / 4503599627370496)=((sbit s*2048+E:Nat):Int):=by rw[sgw_S,hc]; omega
  rw[e1,u64_and2047 _ (by omega)]
  congr 1
  omega
 ·have:=andNot_exp (sbit s) c hS (by omega)
  rw[←sgw_S] at this
  rw[this]
  congr 2
  omega
 ·have:=or_exp_i (sbit s) r 1022 hS hr (by decide)
  rw[show((1022*4503599627370496:Nat):Int)=4602678819172646912 from rfl] at this
  rw[this,sgw_S]
end Tr
namespace Go.Proofs.YthklnbaddobieaaGreat
open Go.RowKit Tr
theorem Ldexp_any{fb m B:Nat}{e:Int}(hm:0<m)(hm2:m≤9007199254740992)(hfb:Exu fb ((m*2 ^ UU:Nat):Int))(hf:fb<18446744073709551616)(he:-1074≤e)(he2:e≤100000)(hB:VV B=m*2 ^ (e+1074).toNat)(w:World) :
  Calls Tryz.prog 95 #[.float .f64 fb,.int .i64 e] w fun r w'=>r=.returned (.float .f64 (min B (GW+1)))∧w=w':=by
 obtain⟨E,r,h1,h2,h3,h4,h5⟩:=ldexp_ways hm hm2 hfb hf he hB
 have main:∀ w:World,Calls Tryz.prog 159 #[.float .f64 fb,.int .i64 e] w fun r w'=>r=.returned (.float .f64 (min B (GW+1)))∧w=w':=by
  intro w
  clear hB hfb
  rcases h5 with⟨k1,k2⟩|⟨x,k1,k2,k3,k4⟩|⟨x,k1,k2,k3⟩
  ·rw[k2]; exact ldexp_hi E r e h1 h2 h3 h4 he he2 k1 w
  ·exact ldexp_mid E r e x _ k1 h1 h2 h3 h4 k2 k3 k4 w
  ·exact ldexp_low E r e x _ k1 h1 h2 h3 h4 he k2 k3 w
 clear h1 h2 h3 h4 h5 hB hfb
 generalize min B (GW+1)=M at *
 go_enter Tryz.func95,Tryz.ntmps95
 go_wp2_with (go_at_call 159; refine(main _).mono ?_; rintro e w' ⟨rfl,rfl⟩)
 go_ret
 exact⟨rfl,rfl⟩
set_option maxRecDepth 100000 in
theorem frexp_by{s:Bool}{b c E r:Nat}{e0:Int}(hb0:b≠0)(hb:b≤GW)(hn:∀ w,Calls Tryz.prog 206 #[.float .f64 (sgw s b)] w fun e w'=>e=.returned (.tuple #[.float .f64 (sgw s c),.int .i64 e0])∧w=w')
  (hc:c=E*4503599627370496+r) (hr:r<4503599627370496) (hE:E≤2046) (he0:e0=0∨e0=-52) (w:World) :
  Calls Tryz.prog 161 #[.float .f64 (sgw s b)] w fun e w'=>e=.returned (.tuple #[.float .f64 (sgw s (1022*4503599627370496+r)),.int .i64 (e0+((E:Int) - 1023+1))])∧w=w':=by
 have main:∀ w:World,Calls Tryz.prog 208 #[.float .f64 (sgw s b)] w fun e w'=>e=.returned (.tuple #[.float .f64 (sgw s (1022*4503599627370496+r)),.int .i64 (e0+((E:Int) - 1023+1))])∧w=w':=by
  intro w
  obtain⟨f1,Y,f2,f3⟩:=frexp_bits (s:=s) hc hr hE
  have e1:=bits_of
  have e2:=of_bits
  have h1:=ord_self (ex_sgw (s:=s) hb)
  have h2:=ord_fin hb
  have h3:(FloatKind.f64.format.order (sgw s b) 0 == some .eq)=decide (b=0):=ord_eq0 (s:=s) hb
  rw[show decide (b=0)=false by simp[hb0]] at h3
  have h4:sgw s b % 2 ^ 63=b:=sgw_mod (by omega)
  have h5:sgw s b<2 ^ 64:=sgw_lt hb
  have b1:-52≤e0:=by omega
  have b2:e0≤0:=by omega
  have HN:=Lib.hid (hn w)
  clear hn hc hr he0 hb hb0
  generalize sgw s c=X at *
  generalize sgw s (1022*4503599627370496+r)=Z at *
  generalize sgw s b=F at *
  go_enter Tryz.func208,Tryz.ntmps208
  go_wp2_with (first|(go_at_call 97; refine(isnan_any _ _).mono ?_; rintro e w' ⟨rfl,rfl⟩; rw[h1])|(go_at_call 38; refine(isinf0_any h5 _).mono ?_; rintro e w' ⟨rfl,rfl⟩; rw[h4,h2])|(go_at_call 206; refine HN.out.mono ?_; rintro e w' ⟨rfl,rfl⟩))
  refine bodyPost_ret (v:=.tuple #[.float .f64 Z,.int .i64 (e0+((E:Int) - 1023+1))]) (by kernel_rfl) rfl ⟨rfl,rfl⟩
 clear hn hc hr he0 hb hb0
 generalize sgw s (1022*4503599627370496+r)=Z at *
 generalize sgw s b=F at *
 go_enter Tryz.func161,Tryz.ntmps161
 go_wp2_with (go_at_call 208; refine(main _).mono ?_; rintro e w' ⟨rfl,rfl⟩)
 refine bodyPost_ret (v:=.tuple #[.float .f64 Z,.int .i64 (e0+((E:Int) - 1023+1))]) (by kernel_rfl) rfl ⟨rfl,rfl⟩
theorem frexp_0(s:Bool)(w:World):Calls Tryz.prog 161 #[.float .f64 (sgw s 0)] w fun e w'=>e=.returned (.tuple #[.float .f64 (sgw s 0),.int .i64 0])∧w=w':=by
 have h3:(FloatKind.f64.format.order (sgw s 0) 0 == some .eq)=decide ((0:Nat)=0):=ord_eq0 (s:=s) (b:=0) (by decide)
 rw[show decide ((0:Nat)=0)=true from rfl] at h3
 generalize sgw s 0=F at *
 have main:∀ w:World,Calls Tryz.prog 208 #[.float .f64 F] w fun e w'=>e=.returned (.tuple #[.float .f64 F,.int .i64 0])∧w=w':=by
  intro w
  go_enter Tryz.func208,Tryz.ntmps208
  go_wp2
  refine bodyPost_ret (v:=.tuple #[.float .f64 F,.int .i64 0]) (by kernel_rfl) rfl ⟨rfl,rfl⟩
 go_enter Tryz.func161,Tryz.ntmps161
 go_wp2_with (go_at_call 208; refine(main _).mono ?_; rintro e w' ⟨rfl,rfl⟩)
 refine bodyPost_ret (v:=.tuple #[.float .f64 F,.int .i64 0]) (by kernel_rfl) rfl ⟨rfl,rfl⟩
theorem normalize_s{s:Bool}{b c:Nat}(hb:b<4503599627370496)(hm:Ieee.double.mul (sgw s b) 4841369599423283200=some (sgw s c))(w:World) :
  Calls Tryz.prog 206 #[.float .f64 (sgw s b)] w fun e w'=>e=.returned (.tuple #[.float .f64 (sgw s c),.int .i64 (-52)])∧w=w':=by
 have h1:(FloatKind.f64.format.order b 4503599627370496 == some .lt)=decide (b<4503599627370496):=ord_small (by unfold GW; omega)
 rw[show decide (b<4503599627370496)=true by simp[hb]] at h1
 have hb2:b<9223372036854775808:=by omega
 have hv:VOp .mul (sgw s b) 4841369599423283200 (sgw s c):=hm
 have r4:=fun w=>hv.run (P:=Tryz.prog) 28 w
 clear hm hb hv
 go_enter Tryz.func206,Tryz.ntmps206
 go_wp2_with (go_at_call 98; refine(ab_any hb2 _).mono ?_; rintro e w' ⟨rfl,rfl⟩)
 refine bodyPost_ret (v:=.tuple #[.float .f64 (sgw s c),.int .i64 (-52)]) (by kernel_rfl) rfl ⟨rfl,rfl⟩
theorem toInt_val{x:Nat}{n:Int}(h:Exu x (n*2 ^ UU))(h1:-9007199254740992≤n)(h2:n≤9007199254740992):floatToIntVal .f64 x .i64=some n:=by
 unfold floatToIntVal
 have:=toInt_ex h
 rw[show(FloatKind.f64.decode x).toInt .zero=some n from this]
 show(if IntKind.i64.min≤n∧n≤IntKind.i64.max then some n else none)=some n
 rw[if_pos]
 have e1:IntKind.i64.min=-9223372036854775808:=rfl
 have e2:IntKind.i64.max=9223372036854775807:=rfl
 rw[e1,e2]
 omega
theorem sgk_bound{s:Bool}{r:Nat}(hr:r<4503599627370496):-9007199254740992≤sgk s (4503599627370496+r)∧sgk s (4503599627370496+r)≤9007199254740992∧(sgk s (4503599627370496+r)).natAbs<9007199254740992:=by
 unfold sgk
 cases s
 ·simp only[Bool.false_eq_true,if_false]; omega
 ·simp only[if_true]; omega
theorem Frexp_any{s:Bool}{b:Nat}(hb:b≤GW):∃(fw mv:Nat) (n e:Int),(∀ w,Calls Tryz.prog 161 #[.float .f64 (sgw s b)] w fun q w'=>q=.returned (.tuple #[.float .f64 fw,.int .i64 e])∧w=w') ∧
  VOp .mul fw 4845873199050653696 mv∧floatToIntVal .f64 mv .i64=some n∧n.natAbs<9007199254740992 ∧
  ((∃ d:Nat,e - 53=(d:Int)∧d≤971∧fq s b=((n*2 ^ d:Int):Rat))∨(∃ t:Nat,0<t∧e - 53=-(t:Int)∧t≤1126∧fq s b=Rat.divInt n ((2 ^ t:Nat):Int))):=by
 by_cases h0:b=0
 ·subst h0
  refine⟨_,_,0,0,frexp_0 s,mul_zero53 s,toInt_val (by rw[Int.zero_mul]; exact(sgv_zero (s:=s) (b:=0)).2 rfl▸ex_sgw (s:=s) (b:=0) (by decide)) (by decide) (by decide),by decide,.inr ⟨53,by decide,rfl,by decide,?_⟩⟩
  have:sgv s 0=0:=(sgv_zero (s:=s) (b:=0)).2 rfl
  unfold fq
  rw[this,Rat.zero_divInt]
  generalize ((2 ^ UU:Nat):Rat)=u
  show(0:Rat) / u=0
  grind
 ·have main:∃(r:Nat) (e:Int),r<4503599627370496∧(∀ w,Calls Tryz.prog 161 #[.float .f64 (sgw s b)] w fun q w'=>q=.returned (.tuple #[.float .f64 (sgw s (1022*4503599627370496+r)),.int .i64 e])∧w=w')∧-1126≤e - 53∧e - 53≤971∧VV b*2 ^ 52=(4503599627370496+r)*2 ^ (e - 53+1126).toNat:=by
   rcases Nat.lt_or_ge b 4503599627370496 with c|c
   ·obtain⟨c',E,r,k1,k2,k3,k4,k5,k6,k7⟩:=sub_parts (s:=s) h0 c
    refine⟨r,-52+((E:Int) - 1023+1),k4,fun w=>frexp_by h0 hb (normalize_s c k1) k3 k4 (by omega) (.inr rfl) w,by omega,by omega,?_⟩
    rw[show VV b=b by unfold VV; rw[if_pos c],show(2:Nat) ^ 52=4503599627370496 by decide,k7]
    congr 2
    clear k7
    omega
   ·obtain⟨E,r,k3,k4,k5,k6,k7⟩:=frexp_parts hb c
    refine⟨r,0+((E:Int) - 1023+1),k4,fun w=>frexp_by h0 hb (normalize_n hb c) k3 k4 (by omega) (.inl rfl) w,by omega,by omega,?_⟩
    rw[k7,Nat.mul_assoc,←Nat.pow_add]
    congr 2
    clear k7
    omega
  obtain⟨r,e,hr,hc,h1,h2,hv⟩:=main
  obtain⟨mv,hm,hx⟩:=frac53 (s:=s) hr
  obtain⟨b1,b2,b3⟩:=sgk_bound (s:=s) hr
  refine⟨_,mv,sgk s (4503599627370496+r),e,hc,hm,toInt_val hx b1 b2,b3,?_⟩
  rcases Int.lt_or_le (e - 53) 0 with c|c
  ·refine .inr ⟨(-(e - 53)).toNat,by omega,by omega,by omega,fq_lo (j:=(e - 53+1126).toNat) (by rw[UT_eq]; omega) hv⟩
  ·refine .inl ⟨(e - 53).toNat,by omega,by omega,fq_hi (by rw[hv]; congr 2; rw[UT_eq]; omega)⟩
theorem newInt_own(n:Int)(h0:-9223372036854775808≤n)(h1:n<9223372036854775808)(w:World) :
  Calls Tryz.prog 90 #[.int .i64 n] w fun e w'=>e=.returned (.pointer (some ⟨w.heap.size,0,none⟩))∧OwnI w.heap.size n w'∧Below w.heap.size w w':=by
 have hs:=setInt64_any w.heap.size 0 _ _ n h0 h1 _ (heap_alloc_new w (.cells #[.bool false,.slice none 0 0] 131)) (by decide) noW_zInt
 have HS:=Lib.hid hs
 clear hs
 go_enter Tryz.func90,Tryz.ntmps90
 go_wp2_with (go_at_call 157; refine HS.out.mono ?_; rintro e w' ⟨rfl,hp⟩)
 go_ret
 exact⟨rfl,hp.own (by decide) noW_zInt,(hp.new (by decide)).1⟩
theorem OwnI.lsh{B N:Nat}{z:Int}{w:World}(h:OwnI B z w)(hl:(words z.natAbs).length<1000000)(hN:N<1000000)(hl2:(words (z.natAbs*2 ^ N)).length<1000000) :
  Calls Tryz.prog 86 #[.pointer (some ⟨B,0,none⟩),.pointer (some ⟨B,0,none⟩),.int .u64 N] w fun e w'=>e=.returned (.pointer (some ⟨B,0,none⟩))∧OwnI B (z*2 ^ N) w'∧Mod B w w':=by
 obtain⟨C,a1,a2,a3,a4⟩:=h
 refine(Lsh_any B 0 C _ z _ N NoA w a1 a2 a3 a4 (by omega) (by omega) (by omega)).mono ?_
 rintro e w' ⟨rfl,hp⟩
 exact⟨rfl,hp.own a2 a3,hp.1⟩
theorem OwnI.intP{B:Nat}{z:Int}{w:World}(h:OwnI B z w):IntP z (.pointer (some ⟨B,0,none⟩)) w NoA:=by
 obtain⟨C,a1,a2,a3,a4⟩:=h; exact a4
theorem OwnI.lt{B:Nat}{z:Int}{w:World}(h:OwnI B z w):B<w.heap.size:=by
 obtain⟨C,a1,a2,a3,a4⟩:=h; exact(Array.getElem?_eq_some_iff.1 a1).1
theorem OwnI.below{B:Nat}{z:Int}{w w':World}(h:OwnI B z w)(hb:Below w.heap.size w w'):OwnI B z w':=by
 have hl:=h.lt
 obtain⟨C,a1,a2,a3,a4⟩:=h
 exact⟨C,(hb.block B hl).trans a1,a2,a3,a4.below hb⟩
theorem wl_small{n N:Nat}(hn:n<9007199254740992)(hN:N≤1126):(words (n*2 ^ N)).length<1000000:=by
 obtain⟨k,hk⟩:∃ k,k=38:=⟨_,rfl⟩
 refine Nat.lt_of_le_of_lt (words_length_le (k:=k) ?_) (by omega)
 have h1:n*2 ^ N<2 ^ 53*2 ^ N:=Nat.mul_lt_mul_of_pos_right (by simpa using hn) (Nat.two_pow_pos _)
 rw[show(4294967296:Nat)=2 ^ 32 by decide,←Nat.pow_mul]
 rw[←Nat.pow_add] at h1
 exact Nat.lt_of_lt_of_le h1 (Nat.pow_le_pow_right (by decide) (by omega))
theorem wl_two{N:Nat}(hN:N≤1126):(words (2 ^ N)).length<1000000:=by
 have:=wl_small (n:=1) (by decide) hN
 rwa[Nat.one_mul] at this
theorem SetFloat_any{s:Bool}{b:Nat}(hb:b≤GW)(m:Nat)(w:World)(hm:w.heap[m]?=some zR) :
  Calls Tryz.prog 99 #[.pointer (some ⟨m,0,none⟩),.float .f64 (sgw s b)] w fun e w'=>e=.returned (.pointer (some ⟨m,0,none⟩))∧PutR m (fq s b) w w':=by
 obtain⟨fw,mv,n,e,hf,hv,hi,hn,hq⟩:=Frexp_any (s:=s) hb
 have hmlt:m<w.heap.size:=(Array.getElem?_eq_some_iff.1 hm).1
 have h1:=ord_self (ex_sgw (s:=s) hb)
 have h2:=ord_fin hb
 have h4:sgw s b % 2 ^ 63=b:=sgw_mod (by omega)
 have h5:sgw s b<2 ^ 64:=sgw_lt hb
 have r4:=fun w=>hv.run (P:=Tryz.prog) 28 w
 have r5:=fun w=>run_convert_float_int (P:=Tryz.prog) w 28 2 .f64 .i64 mv n (by kernel_rfl) (by kernel_rfl) hi
 have HF:=Lib.hid hf
 have HM:=Lib.hid hm
 have hln:(words n.natAbs).length<1000000:=by have:=wl_small (N:=0) hn (by decide); rwa[Nat.pow_zero,Nat.mul_one] at this
 obtain⟨q,hqe⟩:∃ q,q=fq s b:=⟨_,rfl⟩
 rw[←hqe] at hq ⊢
 clear hf hv hi hm hqe
 rcases hq with⟨d,e1,e2,e3⟩|⟨t,e0,e1,e2,e3⟩
 ·have ed:e=(d:Int)+53:=by omega
  subst ed
  have hl2:=wl_small hn (show d≤1126 by omega)
  have HQ:=Lib.hid e3
  have w1:IntKind.i64.wrap ((d:Int)+53 - 53)=(d:Int):=by rw[IntKind.wrap_i64]; omega
  have w2:IntKind.u64.wrap (d:Int)=(d:Int):=by rw[IntKind.wrap_u64]; omega
  clear hb e1 e3
  generalize sgw s b=F at *
  go_enter Tryz.func99,Tryz.ntmps99
  go_wp2_with (first|(go_at_call 97; refine(isnan_any _ _).mono ?_; rintro e w' ⟨rfl,rfl⟩; rw[h1])|(go_at_call 38; refine(isinf0_any h5 _).mono ?_; rintro e w' ⟨rfl,rfl⟩; rw[h4,h2])|(go_at_call 161; refine(HF.out _).mono ?_; rintro e w' ⟨rfl,rfl⟩))
  refine(newInt_own n (by omega) (by omega) w).mono ?_
  rintro e w1 ⟨rfl,hn1,hb1⟩
  go_wp2_with fail
  refine(hn1.lsh hln (by omega) hl2).mono ?_
  rintro e w2 ⟨rfl,hn2,hm2⟩
  have hb2:Below w.heap.size w w2:=hb1.trans (hm2.below (Nat.le_refl _) hb1.size)
  have hi2:=hn2.intP
  have hl3:(words (n*2 ^ d).natAbs).length<274877906944:=by rw[natAbs_shl]; omega
  have HS:=Lib.hid (RSetInt_any m _ (n*2 ^ d) _ NoA w2 ((hb2.block m hmlt).trans HM.out) rfl noW_zRat hi2 hl3)
  clear hi2 hl3
  go_wp2_with (go_at_call 162; refine HS.out.mono ?_; rintro e w' ⟨rfl,hp⟩)
  go_ret
  rw[←HQ.out] at hp
  exact⟨rfl,hp.below hb2⟩
 ·have ed:e=-(t:Int)+53:=by omega
  subst ed
  have hl2:=wl_two e2
  have HQ:=Lib.hid e3
  have w1:IntKind.i64.wrap (-(t:Int)+53 - 53)=-(t:Int):=by rw[IntKind.wrap_i64]; omega
  have w3:IntKind.i64.wrap (- -(t:Int))=(t:Int):=by rw[IntKind.wrap_i64]; omega
  have w4:IntKind.i64.wrap (0 - -(t:Int))=(t:Int):=by rw[IntKind.wrap_i64]; omega
  have w2:IntKind.u64.wrap (t:Int)=(t:Int):=by rw[IntKind.wrap_u64]; omega
  clear hb e1 e3
  generalize sgw s b=F at *
  go_enter Tryz.func99,Tryz.ntmps99
  go_wp2_with (first|(go_at_call 97; refine(isnan_any _ _).mono ?_; rintro e w' ⟨rfl,rfl⟩; rw[h1])|(go_at_call 38; refine(isinf0_any h5 _).mono ?_; rintro e w' ⟨rfl,rfl⟩; rw[h4,h2])|(go_at_call 161; refine(HF.out _).mono ?_; rintro e w' ⟨rfl,rfl⟩))
  refine(newInt_own n (by omega) (by omega) w).mono ?_
  rintro e w1 ⟨rfl,hn1,hb1⟩
  go_wp2_with fail
  refine(newInt_own 1 (by decide) (by decide) _).mono ?_
  rintro e w2 ⟨rfl,hn2,hb2⟩
  have hb12:Below w1.heap.size w1 w2:=(br.alloc (Nat.le_refl _) _).trans (hb2.mono (by simp))
  have k2:w2.heap[w1.heap.size]?=some (.cells #[.bool false,.slice none 0 0] 131 (0,0)):=(hb2.block _ (by simp)).trans (heap_alloc_new w1 _)
  have hi1:=hn2.intP
  rw[show(w1.alloc (.cells #[.bool false,.slice none 0 0] 131)).heap.size=w1.heap.size+1 by simp] at hi1
  have hl1:(words (1:Int).natAbs).length<274877906944:=by have:=wl_two (N:=0) (by decide); rw[show(1:Int).natAbs=2 ^ 0 from rfl]; omega
  have hl4:(words ((1:Int).natAbs*2 ^ t)).length<1099511627776:=by rw[show(1:Int).natAbs*2 ^ t=2 ^ t from Nat.one_mul _]; omega
  have HL:=Lib.hid (Lsh_any w1.heap.size 0 _ _ (1:Int) _ t NoA w2 k2 (by decide) noW_zInt hi1 hl1 (by omega) hl4)
  clear hi1 hl1 hl4 k2
  go_wp2_with fail
  refine HL.out.mono ?_
  rintro e w3 ⟨rfl,hp3⟩
  rw[Int.one_mul] at hp3
  obtain⟨C3,_,_,_,hi3⟩:=hp3.own (by decide) noW_zInt
  have hb3:Below w1.heap.size w1 w3:=hb12.trans (hp3.1.below (Nat.le_refl _) hb12.size)
  have hbw:Below w.heap.size w w3:=hb1.trans (hb3.mono hb1.size)
  have hin:=hn1.intP.below hb3
  rw[show((2:Int) ^ t)=((2 ^ t:Nat):Int) by simp] at hi3
  have hz:((2 ^ t:Nat):Int)≠0:=by have:=Nat.two_pow_pos t; omega
  have HS:=Lib.hid (SetFrac_any m _ n ((2 ^ t:Nat):Int) hz _ _ NoA w3 ((hbw.block m hmlt).trans HM.out) rfl noW_zRat hin hi3 (by omega) (by rw[show(((2 ^ t:Nat):Int)).natAbs=2 ^ t from rfl]; omega))
  clear hin hi3 hz hp3
  go_wp2_with (go_at_call 80; refine HS.out.mono ?_; rintro e w' ⟨rfl,hp⟩)
  go_ret
  rw[←HQ.out] at hp
  exact⟨rfl,hp.below hbw⟩
theorem nrat_any{s:Bool}{b:Nat}(hb:b≤GW)(w:World) :
  Calls Tryz.prog 39 #[.float .f64 (sgw s b)] w fun e w'=>∃ v,e=.returned v∧NewR (fq s b) v w w':=by
 have HS:=Lib.hid (SetFloat_any (s:=s) hb w.heap.size (w.alloc (.cells #[.bool false,.slice none 0 0,.bool false,.slice none 0 0] 133)) (heap_alloc_new w _))
 obtain⟨F,hF⟩:∃ F,F=sgw s b:=⟨_,rfl⟩
 rw[←hF] at HS ⊢
 clear hF hb
 go_enter Tryz.func39,Tryz.ntmps39
 go_wp2_with (go_at_call 99; refine HS.out.mono ?_; rintro e w' ⟨rfl,hp⟩)
 go_ret
 exact⟨_,rfl,hp.new⟩
end Go.Proofs.YthklnbaddobieaaGreat
namespace Go.Proofs.YthklnbaddobieaaGreat
open Go.RowKit Tr
theorem Abs_any(m o:Nat)(C:Array Value)(T:TypeId)(x:Int)(vx:Value)(A:Nat→Prop)(w:World)(hm:w.heap[m]?=some (.cells C T (0,0)))(ho:o+1<C.size)(hC:NoW (.cells C T (0,0)))(hx:IntP x vx w A)(hnx:(words x.natAbs).length<274877906944) :
  Calls Tryz.prog 83 #[.pointer (some ⟨m,o,none⟩),vx] w fun e w'=>e=.returned (.pointer (some ⟨m,o,none⟩))∧Put m o C T (x.natAbs:Int) w w':=by
 have hc:=set_any m o C T x vx A w hm ho hC hx hnx
 obtain⟨b2,bo2,sl2,rfl,hb2,_,d0,d1,hsl2⟩:=hx
 have HC:=Lib.hid hc
 have HN:=Lib.hid hC
 clear hc hm hC d0 d1
 go_enter Tryz.func83,Tryz.ntmps83
 go_wp2_with (go_at_call 149; refine HC.out.mono ?_; rintro e w' ⟨rfl,hp⟩; obtain⟨sl,e1,e2,e3,e4,e5⟩:=hp.cells ho; obtain⟨p,cap,rfl,_,_⟩:=e3; have e6:=e5 o; clear e5 e4)
 go_ret
 refine⟨rfl,?_⟩
 have k:=put_again (z':=(x.natAbs:Int)) hp (by simp) HN.out
 rw[show decide (((x.natAbs:Nat):Int)<0)=false by simp] at k
 exact k
theorem Bit0_any(x:Nat)(vx:Value)(A:Nat→Prop)(w:World)(hx:IntP (x:Int) vx w A)(hn:(words x).length<274877906944) :
  Calls Tryz.prog 93 #[vx,.int .i64 0] w fun e w'=>e=.returned (.int .u64 ((x % 2:Nat):Int))∧w=w':=by
 obtain⟨b,bo,sl,rfl,hb,_,c0,c1,hsl⟩:=hx
 rw[show((x:Int)).natAbs=x from rfl] at hsl
 have hw:=hsl.wsl
 obtain⟨p,cap,rfl,hcap,hrow⟩:=hw
 clear hsl
 by_cases hz:x=0
 ·subst hz
  rw[words_zero] at c1
  go_enter Tryz.func93,Tryz.ntmps93
  go_wp2
  go_ret
  exact⟨rfl,rfl⟩
 ·have hm0:0<(words x).length:=List.length_pos_iff.2 (fun h=>hz (words_eq_nil.1 h))
  obtain⟨bb,ob,rfl,hbb,hcell⟩:=hrow (List.length_pos_iff.1 hm0)
  have d0:=hcell 0 hm0
  obtain⟨bt,hbt⟩:∃ bt,bt=(words x)[0]?.getD 0:=⟨_,rfl⟩
  rw[←hbt,Nat.add_zero] at d0
  have hbx:bt % 2=x % 2:=by
   have h1:=wat_words x 0
   rw[Nat.pow_zero,Nat.div_one] at h1
   rw[hbt]
   show wat (words x) 0 % 2=x % 2
   rw[h1]
   omega
  have hlt:bt<4294967296:=by
   have h1:=wat_words x 0
   rw[hbt]
   show wat (words x) 0<_
   rw[h1]; exact Nat.mod_lt _ (by decide)
  obtain⟨m,hm⟩:∃ m,(words x).length=m:=⟨_,rfl⟩
  rw[hm] at c1 hn hm0 hcap
  have HX:=Lib.hid hbx
  have hand:bits .and .u32 (bt:Int) 1=(((bt % 2:Nat)):Int):=by
   have:=u32_and_nat bt 1 hlt (by decide)
   rw[show((1:Nat):Int)=1 from rfl] at this
   rw[this,show(1:Nat)=2 ^ 1 - 1 by decide,Nat.and_two_pow_sub_one_eq_mod]
  clear hcell hrow hz hm hbt hbx
  go_enter Tryz.func93,Tryz.ntmps93
  go_wp2
  go_ret
  rw[←HX.out]
  exact⟨rfl,rfl⟩
theorem wat_two{x:Nat}(h:x<18446744073709551616):x=wat (words x) 0+wat (words x) 1*4294967296:=by
 rw[wat_words,wat_words,Nat.pow_zero,Nat.pow_one,Nat.div_one]; omega
theorem words_len_two{x:Nat}(h:x<18446744073709551616):(words x).length≤2:=words_length_le (by simpa using h)
theorem low_any(x:Nat)(h64:x<18446744073709551616)(vx:Value)(A:Nat→Prop)(w:World)(hx:IntP (x:Int) vx w A) :
  Calls Tryz.prog 160 #[vx] w fun e w'=>e=.returned (.int .u64 (x:Int))∧w=w':=by
 obtain⟨b,bo,sl,rfl,hb,_,c0,c1,hsl⟩:=hx
 rw[show((x:Int)).natAbs=x from rfl] at hsl
 have hw:=hsl.wsl
 obtain⟨p,cap,rfl,hcap,hrow⟩:=hw
 have h2:=words_len_two h64
 have hx2:=wat_two h64
 have l0:=wat_lt (wok_words x) 0
 have l1:=wat_lt (wok_words x) 1
 clear hsl
 by_cases hz:x=0
 ·subst hz
  rw[words_zero] at c1
  clear hx2 l0 l1
  go_enter Tryz.func160,Tryz.ntmps160
  go_wp2
  go_ret
  exact⟨rfl,rfl⟩
 ·have hm0:0<(words x).length:=List.length_pos_iff.2 (fun h=>hz (words_eq_nil.1 h))
  obtain⟨bb,ob,rfl,hbb,hcell⟩:=hrow (List.length_pos_iff.1 hm0)
  have d0:w.cell? ⟨bb,ob,none⟩=some (.int .u32 ((wat (words x) 0:Nat):Int)):=hcell 0 hm0
  by_cases h1:(words x).length=1
  ·have hq:wat (words x) 1=0:=wat_out (by omega)
   rw[hq] at hx2
   rw[h1] at c1
   generalize wat (words x) 0=y at *
   have hy:x=y:=by omega
   subst hy
   have hor:bits .or .u64 0 (x:Int)=(x:Int):=by
    have:=bits_or_u64_nat 0 x (by decide) (by omega)
    rw[Nat.zero_or] at this
    exact this
   clear hcell hrow hz h1 hq h2 hcap hm0 hx2
   go_enter Tryz.func160,Tryz.ntmps160
   go_wp2
   go_ret
   exact⟨rfl,rfl⟩
  ·have hl:(words x).length=2:=by omega
   have d1:w.cell? ⟨bb,ob+1,none⟩=some (.int .u32 ((wat (words x) 1:Nat):Int)):=hcell 1 (by omega)
   rw[hl] at c1
   generalize wat (words x) 0=y at *
   generalize wat (words x) 1=z at *
   have hor:bits .or .u64 ((z:Int)*4294967296) (y:Int)=(x:Int):=by
    have:=or_high l0 l1
    have e:=bits_or_u64_nat y (z*4294967296) (by omega) (by omega)
    have e2:=bits_or_u64_nat (z*4294967296) y (by omega) (by omega)
    rw[show((z*4294967296:Nat):Int)=(z:Int)*4294967296 by simp] at e e2
    rw[e2,Nat.or_comm,←e,this,←hx2]
   clear hcell hrow hz h1 hl h2 hcap hm0 hx2 h64
   go_enter Tryz.func160,Tryz.ntmps160
   go_wp2
   go_ret
   exact⟨rfl,rfl⟩
theorem Uint64_any(x:Nat)(h64:x<18446744073709551616)(vx:Value)(A:Nat→Prop)(w:World)(hx:IntP (x:Int) vx w A) :
  Calls Tryz.prog 96 #[vx] w fun e w'=>e=.returned (.int .u64 (x:Int))∧w=w':=by
 have HL:=Lib.hid (low_any x h64 vx A w hx)
 go_enter Tryz.func96,Tryz.ntmps96
 go_wp2_with (go_at_call 160; refine HL.out.mono ?_; rintro e w' ⟨rfl,rfl⟩)
 go_ret
 exact⟨rfl,rfl⟩
theorem bits_one{n M N:Nat}(h1:BitsOf n M)(h2:BitsOf n N):M=N:=by
 have key:∀{a b:Nat},BitsOf n a→BitsOf n b→a≤b:=fun{a b} ha hb=>by
  rcases ha.2 with h0|h0
  ·omega
  ·rcases Nat.lt_or_ge b a with c|c
   ·exfalso
    have:=Nat.pow_le_pow_right (show 0<2 by decide) (show b≤a - 1 by omega)
    have:=hb.1
    omega
   ·exact c
 exact Nat.le_antisymm (key h1 h2) (key h2 h1)
end Go.Proofs.YthklnbaddobieaaGreat
namespace Go.Proofs.YthklnbaddobieaaGreat
open Go.RowKit Tr
def encZ(z:Int):Value:=.agg #[.bool (decide (z<0)),.string (strN z.natAbs)]
def encF(q:Rat):Value:=.agg #[.bool (decide (q.num<0)),.string (strN q.num.natAbs),.bool false,.string (strN q.den)]
def WForm(neg:Bool)(s:ByteArray):Prop:=(s.size=0→neg=false)∧NoLead s
theorem numS_zero{s:ByteArray}(h:NoLead s):numS s=0↔s.size=0:=by
 rw[←strN_numS h,numS_strN,size_strN]
 constructor
 ·intro h0; rw[h0,byteLE_zero]; rfl
 ·intro h0
  have:=List.eq_nil_of_length_eq_zero h0
  rcases Nat.eq_zero_or_pos (numS s) with h1|h1
  ·exact h1
  ·rw[byteLE_pos (by omega)] at this; cases this
theorem WForm.enc{neg:Bool}{s:ByteArray}(h:WForm neg s):Value.agg #[.bool neg,.string s]=encZ (sgn neg (numS s)):=by
 unfold encZ
 rw[natAbs_sgn,strN_numS h.2,sgn_neg]
 have:(neg && decide (numS s≠0))=neg:=by
  cases hn:neg
  ·rfl
  ·have:s.size≠0:=fun h0=>by have:=h.1 h0; rw[hn] at this; cases this
   have h2:numS s≠0:=fun h0=>this ((numS_zero h.2).1 h0)
   simp[h2]
 rw[this]
theorem below_bytes(w:World)(e:TypeId)(s:ByteArray):Below w.heap.size w (Lib.bytesWorld w e s):=by
 refine⟨?_,?_,?_,?_,fun k hk=>Lib.bytesWorld_at_old w e s k hk⟩
 ·simp[Lib.bytesWorld,World.freeze,World.alloc,World.drew,-World.alloc_eq,-World.drew_eq]
 ·simp[Lib.bytesWorld,World.freeze,World.alloc,World.drew,-World.alloc_eq,-World.drew_eq]
 ·simp[Lib.bytesWorld,World.freeze,World.alloc,World.drew,-World.alloc_eq,-World.drew_eq]
 ·rw[Lib.bytesWorld_size]; omega
theorem bsl_bytes(w:World)(s:ByteArray):BSl (Lib.bytesWorld w 5 s) (.slice (some ⟨w.heap.size,0,none⟩) s.size (grownCap w s.size 0 5)) s:=by
 refine⟨w.heap.size,0,_,rfl,by rw[Lib.bytesWorld_size]; omega,fun i hi=>?_⟩
 rw[Nat.zero_add,Lib.bytesWorld_cell w _ s i hi]
 simp[List.getD,hi]
 rfl
theorem Put.newAt{m o:Nat}{C:Array Value}{T:TypeId}{z:Int}{w w1 w':World}(h:Put m o C T z w1 w')(ho:o+1<C.size)(hb:Below w.heap.size w w1)(hm:w.heap.size≤m):NewI z (.pointer (some ⟨m,o,none⟩)) w w':=by
 refine⟨hb.trans (h.1.below hm hb.size),fun A hA=>?_⟩
 exact(h.intP ho (hA.below hb)).wider fun b hb'=>⟨hb',fun e=>by have:=hA.lt hb'; omega⟩
theorem PutR.newAt{m:Nat}{q:Rat}{w w1 w':World}(h:PutR m q w1 w')(hb:Below w.heap.size w w1)(hm:w.heap.size≤m):NewR q (.pointer (some ⟨m,0,none⟩)) w w':=by
 refine⟨hb.trans (h.1.below hm hb.size),fun A hA=>?_⟩
 exact(h.ratP (hA.below hb)).wider fun b hb'=>⟨hb',fun e=>by have:=hA.lt hb'; omega⟩
set_option maxRecDepth 100000 in
theorem number_any(neg:Bool)(s:ByteArray)(hs:s.size<274877906944)(w:World) :
  Calls Tryz.prog 122 #[.agg #[.bool neg,.string s]] w fun e w'=>∃ v,e=.returned v∧NewI (sgn neg (numS s)) v w w':=by
 have kc:=fun w=>Lib.run_convert_string_bytes (P:=Tryz.prog) w 9 159 5 s Tryz.underlying9 Tryz.underlying159 Tryz.underlying5
 have hlen:(words (numS s)).length<274877906944:=Nat.lt_of_le_of_lt (words_length_le (k:=s.size) (Nat.lt_of_lt_of_le (numS_lt s) (Nat.pow_le_pow_left (by decide) _))) hs
 have HL:=Lib.hid hlen
 clear hlen
 go_enter Tryz.func122,Tryz.ntmps122
 go_wp2_with fail
 clear kc
 obtain⟨W,hW⟩:∃ W,W=(w.alloc (.cells #[.bool neg,.string s] 23)).alloc (.cells #[.bool false,.slice none 0 0] 131):=⟨_,rfl⟩
 have hBW:Below w.heap.size w W:=by rw[hW]; exact(br.alloc (Nat.le_refl _) _).alloc (by simp) _
 have hsz:w.heap.size+1+1=W.heap.size:=by rw[hW]; simp
 have hm:W.heap[w.heap.size+1]?=some (.cells #[.bool false,.slice none 0 0] 131 (0,0)):=by
  rw[hW]; have:=heap_alloc_new (w.alloc (.cells #[.bool neg,.string s] 23)) (.cells #[.bool false,.slice none 0 0] 131); simpa using this
 have hc:W.cell? ⟨w.heap.size,0,none⟩=some (.bool neg):=by
  rw[hW]; simp[go_sem]
 rw[←hW,hsz]
 have hb1:=below_bytes W 5 s
 have hb2:Below w.heap.size w (Lib.bytesWorld W 5 s):=hBW.trans (hb1.mono hBW.size)
 have hm2:=(hb1.block _ (by omega)).trans hm
 have hc2:=(hb1.cell (p:=⟨w.heap.size,0,none⟩) (by show w.heap.size<_; omega)).trans hc
 have HS:=Lib.hid (setBytes_any (w.heap.size+1) 0 _ _ s _ rfl _ _ hm2 (by decide) noW_zInt (bsl_bytes W s) hs)
 have HB:=Lib.hid hb2
 have hlt:w.heap.size<(Lib.bytesWorld W 5 s).heap.size:=by rw[Lib.bytesWorld_size]; omega
 clear hW hBW hm hc hb1 hm2 hb2 hsz
 refine HS.out.mono ?_
 rintro e w1 ⟨rfl,hp⟩
 have hc1:=(World.cell?_of_block (w:=Lib.bytesWorld W 5 s) (a:=⟨w.heap.size,0,none⟩) (hp.1.block w.heap.size hlt (by omega))).trans hc2
 clear HS hc2
 cases neg
 ·go_wp2
  go_ret
  exact⟨_,rfl,hp.newAt (by decide) HB.out (by omega)⟩
 ·obtain⟨C1,hm3,hs3,hn3⟩:=put_heap hp
  have hin:=(hp.intP (by decide) (rcv_noA _)).noA
  have HN:=Lib.hid (Neg_any (w.heap.size+1) 0 C1 _ _ _ NoA w1 hm3 (by rw[hs3]; decide) (hn3 noW_zInt) hin (by simpa using HL.out))
  have HP:=Lib.hid hp
  have H3:=Lib.hid hs3
  clear hm3 hin hn3 hp hs3
  go_wp2_with fail
  refine HN.out.mono ?_
  rintro e w2 ⟨rfl,hp2⟩
  go_wp2_with fail
  go_ret
  refine⟨_,rfl,hp2.newAt (by rw[H3.out]; decide) (HB.out.trans (HP.out.1.below (by omega) (by omega))) (by omega)⟩
set_option maxRecDepth 100000 in
theorem xnumber_any(neg:Bool)(s:ByteArray)(hs:s.size<274877906944)(w:World) :
  Calls Tryz.prog 81 #[.agg #[.bool neg,.string s]] w fun e w'=>∃ v,e=.returned v∧NewI (sgn neg (numS s)) v w w':=by
 have kc:=fun w=>Lib.run_convert_string_bytes (P:=Tryz.prog) w 9 159 5 s Tryz.underlying9 Tryz.underlying159 Tryz.underlying5
 have hlen:(words (numS s)).length<274877906944:=Nat.lt_of_le_of_lt (words_length_le (k:=s.size) (Nat.lt_of_lt_of_le (numS_lt s) (Nat.pow_le_pow_left (by decide) _))) hs
 have HL:=Lib.hid hlen
 clear hlen
 go_enter Tryz.func81,Tryz.ntmps81
 go_wp2_with fail
 clear kc
 obtain⟨W,hW⟩:∃ W,W=(w.alloc (.cells #[.bool neg,.string s] 23)).alloc (.cells #[.bool false,.slice none 0 0] 131):=⟨_,rfl⟩
 have hBW:Below w.heap.size w W:=by rw[hW]; exact(br.alloc (Nat.le_refl _) _).alloc (by simp) _
 have hsz:w.heap.size+1+1=W.heap.size:=by rw[hW]; simp
 have hm:W.heap[w.heap.size+1]?=some (.cells #[.bool false,.slice none 0 0] 131 (0,0)):=by
  rw[hW]; have:=heap_alloc_new (w.alloc (.cells #[.bool neg,.string s] 23)) (.cells #[.bool false,.slice none 0 0] 131); simpa using this
 have hc:W.cell? ⟨w.heap.size,0,none⟩=some (.bool neg):=by
  rw[hW]; simp[go_sem]
 rw[←hW,hsz]
 have hb1:=below_bytes W 5 s
 have hb2:Below w.heap.size w (Lib.bytesWorld W 5 s):=hBW.trans (hb1.mono hBW.size)
 have hm2:=(hb1.block _ (by omega)).trans hm
 have hc2:=(hb1.cell (p:=⟨w.heap.size,0,none⟩) (by show w.heap.size<_; omega)).trans hc
 have HS:=Lib.hid (setBytes_any (w.heap.size+1) 0 _ _ s _ rfl _ _ hm2 (by decide) noW_zInt (bsl_bytes W s) hs)
 have HB:=Lib.hid hb2
 have hlt:w.heap.size<(Lib.bytesWorld W 5 s).heap.size:=by rw[Lib.bytesWorld_size]; omega
 clear hW hBW hm hc hb1 hm2 hb2 hsz
 refine HS.out.mono ?_
 rintro e w1 ⟨rfl,hp⟩
 have hc1:=(World.cell?_of_block (w:=Lib.bytesWorld W 5 s) (a:=⟨w.heap.size,0,none⟩) (hp.1.block w.heap.size hlt (by omega))).trans hc2
 clear HS hc2
 cases neg
 ·go_wp2
  go_ret
  exact⟨_,rfl,hp.newAt (by decide) HB.out (by omega)⟩
 ·obtain⟨C1,hm3,hs3,hn3⟩:=put_heap hp
  have hin:=(hp.intP (by decide) (rcv_noA _)).noA
  have HN:=Lib.hid (Neg_any (w.heap.size+1) 0 C1 _ _ _ NoA w1 hm3 (by rw[hs3]; decide) (hn3 noW_zInt) hin (by simpa using HL.out))
  have HP:=Lib.hid hp
  have H3:=Lib.hid hs3
  clear hm3 hin hn3 hp hs3
  go_wp2_with fail
  refine HN.out.mono ?_
  rintro e w2 ⟨rfl,hp2⟩
  go_wp2_with fail
  go_ret
  refine⟨_,rfl,hp2.newAt (by rw[H3.out]; decide) (HB.out.trans (HP.out.1.below (by omega) (by omega))) (by omega)⟩
theorem IntP.avoid{z:Int}{b o:Nat}{w:World}{A:Nat→Prop}(h:IntP z (.pointer (some ⟨b,o,none⟩)) w NoA)(hA:Rcv A w)(hb:¬A b):IntP z (.pointer (some ⟨b,o,none⟩)) w A:=by
 obtain⟨b',o',sl,e,h1,_,h3,h4,h5⟩:=h
 cases e
 exact⟨b,o,sl,rfl,h1,hb,h3,h4,h5.wsl.avoids hA⟩
theorem RatP.avoid{q:Rat}{m:Nat}{w:World}{A:Nat→Prop}(h:RatP q (.pointer (some ⟨m,0,none⟩)) w NoA)(hA:Rcv A w)(hm:¬A m):RatP q (.pointer (some ⟨m,0,none⟩)) w A:=by
 obtain⟨b,e,h1,h2⟩:=h
 cases e
 exact⟨m,rfl,h1.avoid hA hm,h2.imp (fun h=>h.avoid hA hm) (fun h=>⟨h.1,h.2.avoid hA hm⟩)⟩
def RatM(base:Nat)(q:Rat):Fact:=fun v w A=>∃ m,v=.pointer (some ⟨m,0,none⟩)∧base≤m∧RatP q v w A
theorem RatM.keeps(base:Nat)(q:Rat):(RatM base q).Keeps:=by
 intro v w w' A A' hs hk ⟨m,h1,h2,h3⟩
 exact⟨m,h1,h2,RatP.keeps q v w w' A A' hs hk h3⟩
theorem PutR.ratM{m base:Nat}{q:Rat}{w w':World}(h:PutR m q w w')(hm:base≤m){A:Nat→Prop}(hA:Rcv A w):RatM base q (.pointer (some ⟨m,0,none⟩)) w' (fun b=>A b∧b≠m):=⟨m,rfl,hm,h.ratP hA⟩
theorem RatM.new{q:Rat}{v:Value}{w w':World}{base:Nat}(h:RatM base q v w' NoA)(hb:Below w.heap.size w w')(hw:w.heap.size≤base):NewR q v w w':=by
 obtain⟨m,rfl,h2,h3⟩:=h
 exact⟨hb,fun A hA=>h3.avoid (hA.below hb) (fun hm=>by have:=hA.lt hm; omega)⟩
end Go.Proofs.YthklnbaddobieaaGreat
namespace Go.Proofs.YthklnbaddobieaaGreat
open Go.RowKit Tr
theorem ownI_new(w:World):OwnI w.heap.size 0 (w.alloc (.cells #[.bool false,.slice none 0 0] 131)):=by
 refine⟨_,heap_alloc_new w _,by decide,noW_zInt,w.heap.size,0,.slice none 0 0,rfl,by simp,fun h=>h,?_,?_,none,0,?_,?_,?_⟩
 ·unfold World.cell?; simp only[heap_alloc_new w (.cells #[.bool false,.slice none 0 0] 131)]; rfl
 ·unfold World.cell?; simp only[heap_alloc_new w (.cells #[.bool false,.slice none 0 0] 131)]; rfl
 ·simp[words_zero]
 ·simp[words_zero]
 ·intro h; simp[words_zero] at h
theorem OwnI.noW{B:Nat}{z:Int}{w:World}(h:OwnI B z w):Rcv (fun b=>b=B) w:=by
 obtain⟨C,a1,a2,a3,a4⟩:=h
 intro b hb
 subst hb
 exact⟨_,a1,a3⟩
theorem OwnI.mod{B m:Nat}{z y:Int}{w w':World}(h:OwnI B z w)(hm:OwnI m y w)(hne:B≠m)(hmod:Mod m w w'):OwnI B z w':=by
 have hl:=h.lt
 have hn:=hm.noW
 obtain⟨C,a1,a2,a3,a4⟩:=h
 refine⟨C,(hmod.block B hl hne).trans a1,a2,a3,?_⟩
 have h2:=a4.avoid hn hne
 exact(IntP.keeps z _ _ _ _ _ hmod.size (fun b hb hA=>⟨hmod.block b hb hA,hA⟩) h2).noA
theorem OwnI.ptr{m:Nat}{z:Int}{v:Value}{w w':World}(h:IntP z v w (fun b=>b=m))(hmod:Mod m w w'):IntP z v w' (fun b=>b=m) :=
 IntP.keeps z _ _ _ _ _ hmod.size (fun b hb hA=>⟨hmod.block b hb hA,hA⟩) h
theorem OwnI.abs{B:Nat}{z x:Int}{vx:Value}{w:World}(h:OwnI B z w)(hx:IntP x vx w NoA)(hl:(words x.natAbs).length<274877906944) :
  Calls Tryz.prog 83 #[.pointer (some ⟨B,0,none⟩),vx] w fun e w'=>e=.returned (.pointer (some ⟨B,0,none⟩))∧OwnI B (x.natAbs:Int) w'∧Mod B w w':=by
 obtain⟨C,a1,a2,a3,a4⟩:=h
 refine(Abs_any B 0 C _ x _ NoA w a1 a2 a3 hx hl).mono ?_
 rintro e w' ⟨rfl,hp⟩
 exact⟨rfl,hp.own a2 a3,hp.1⟩
theorem OwnI.lshOf{B N:Nat}{z x:Int}{vx:Value}{w:World}(h:OwnI B z w)(hx:IntP x vx w NoA)(hl:(words x.natAbs).length<1000000)(hN:N<1000000)(hl2:(words (x.natAbs*2 ^ N)).length<1000000) :
  Calls Tryz.prog 86 #[.pointer (some ⟨B,0,none⟩),vx,.int .u64 N] w fun e w'=>e=.returned (.pointer (some ⟨B,0,none⟩))∧OwnI B (x*2 ^ N) w'∧Mod B w w':=by
 obtain⟨C,a1,a2,a3,a4⟩:=h
 refine(Lsh_any B 0 C _ x _ N NoA w a1 a2 a3 hx (by omega) (by omega) (by omega)).mono ?_
 rintro e w' ⟨rfl,hp⟩
 exact⟨rfl,hp.own a2 a3,hp.1⟩
theorem OwnI.rshOf{B N n:Nat}{z:Int}{vx:Value}{w:World}(h:OwnI B z w)(hx:IntP (n:Int) vx w NoA)(hl:(words n).length<1000000)(hN:N<1000000) :
  Calls Tryz.prog 88 #[.pointer (some ⟨B,0,none⟩),vx,.int .u64 N] w fun e w'=>e=.returned (.pointer (some ⟨B,0,none⟩))∧OwnI B ((n / 2 ^ N:Nat):Int) w'∧Mod B w w':=by
 obtain⟨C,a1,a2,a3,a4⟩:=h
 refine(Rsh_any B 0 C _ n _ N NoA w a1 a2 a3 hx (by omega) (by omega)).mono ?_
 rintro e w' ⟨rfl,hp⟩
 exact⟨rfl,hp.own a2 a3,hp.1⟩
theorem OwnI.subOf{B:Nat}{z x y:Int}{vx vy:Value}{w:World}(h:OwnI B z w)(hx:IntP x vx w NoA)(hy:IntP y vy w NoA)(hl:(words x.natAbs).length<1000000)(hl2:(words y.natAbs).length<1000000) :
  Calls Tryz.prog 89 #[.pointer (some ⟨B,0,none⟩),vx,vy] w fun e w'=>e=.returned (.pointer (some ⟨B,0,none⟩))∧OwnI B (x - y) w'∧Mod B w w':=by
 obtain⟨C,a1,a2,a3,a4⟩:=h
 refine(Sub_any B 0 C _ x y _ _ NoA w a1 a2 a3 hx hy (by omega) (by omega)).mono ?_
 rintro e w' ⟨rfl,hp⟩
 exact⟨rfl,hp.own a2 a3,hp.1⟩
theorem OwnI.addOf{B:Nat}{z x y:Int}{vx vy:Value}{w:World}(h:OwnI B z w)(hx:IntP x vx w NoA)(hy:IntP y vy w NoA)(hl:(words x.natAbs).length<1000000)(hl2:(words y.natAbs).length<1000000) :
  Calls Tryz.prog 94 #[.pointer (some ⟨B,0,none⟩),vx,vy] w fun e w'=>e=.returned (.pointer (some ⟨B,0,none⟩))∧OwnI B (x+y) w'∧Mod B w w':=by
 obtain⟨C,a1,a2,a3,a4⟩:=h
 refine(Add_any B 0 C _ x y _ _ NoA w a1 a2 a3 hx hy (by omega) (by omega)).mono ?_
 rintro e w' ⟨rfl,hp⟩
 exact⟨rfl,hp.own a2 a3,hp.1⟩
theorem OwnI.quoOf{B B2 n d:Nat}{z z2:Int}{vx vy:Value}{w:World}(h:OwnI B z w)(h2:OwnI B2 z2 w)(hne:B≠B2)(hx:IntP (n:Int) vx w NoA)(hy:IntP (d:Int) vy w NoA)(hd:0<d)(hl:(words n).length<1000000) :
  Calls Tryz.prog 87 #[.pointer (some ⟨B,0,none⟩),vx,vy,.pointer (some ⟨B2,0,none⟩)] w fun e w'=>e=.returned (.tuple #[.pointer (some ⟨B,0,none⟩),.pointer (some ⟨B2,0,none⟩)])∧OwnI B ((n / d:Nat):Int) w'∧OwnI B2 ((n % d:Nat):Int) w'∧∃ w2,Mod B2 w w2∧Mod B w2 w':=by
 have h':=h
 have h2':=h2
 obtain⟨C,a1,a2,a3,a4⟩:=h
 obtain⟨C2,b1,b2,b3,b4⟩:=h2
 refine(QuoRem_any B 0 C _ B2 0 C2 _ hne (n:Int) (d:Int) (by omega) _ _ NoA w a1 a2 a3 b1 b2 b3 hx hy (by rw[Int.natAbs_natCast]; omega)).mono ?_
 rintro e w' ⟨rfl,w2,hp2,hp⟩
 have k2:=hp2.own b2 b3
 have k1:=hp.own a2 a3
 have kB:OwnI B z w2:=h'.mod h2' hne hp2.1
 have k3:=k2.mod kB (fun e=>hne e.symm) hp.1
 rw[show((n:Int)).tdiv (d:Int)=((n / d:Nat):Int) from rfl] at k1
 rw[show((n:Int)).tmod (d:Int)=((n % d:Nat):Int) from rfl] at k3
 exact⟨rfl,k1,k3,w2,hp2.1,hp.1⟩
theorem OwnI.at{B:Nat}{z y:Int}{w:World}(h:OwnI B z w)(e:z=y):OwnI B y w:=e▸h
theorem len_bits{n K:Nat}(h:n<2 ^ K)(hK:K≤1000000):(words n).length<1000000:=by
 obtain⟨j,hj⟩:∃ j,j=K / 32+1:=⟨_,rfl⟩
 refine Nat.lt_of_le_of_lt (words_length_le (k:=j) ?_) (by omega)
 rw[show(4294967296:Nat)=2 ^ 32 by decide,←Nat.pow_mul]
 exact Nat.lt_of_lt_of_le h (Nat.pow_le_pow_right (by decide) (by omega))
theorem lt_bits{n j:Nat}(h:(words n).length≤j):n<2 ^ (32*j):=by
 have h1:=lt_words n
 rw[show(4294967296:Nat)=2 ^ 32 by decide,←Nat.pow_mul] at h1
 exact Nat.lt_of_lt_of_le h1 (Nat.pow_le_pow_right (by decide) (by omega))
theorem bits_le{n N K:Nat}(h:BitsOf n N)(hn:n<2 ^ K):N≤K:=by
 rcases h.2 with h0|h0
 ·omega
 ·rcases Nat.lt_or_ge K N with c|c
  ·exfalso
   have:=Nat.pow_le_pow_right (show 0<2 by decide) (show K≤N - 1 by omega)
   omega
  ·exact c
end Go.Proofs.YthklnbaddobieaaGreat
