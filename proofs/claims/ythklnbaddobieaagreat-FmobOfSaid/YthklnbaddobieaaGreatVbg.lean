/- Laws for the walk. -/
import Derived.Test.YthklnbaddobieaaGreatVbf
set_option linter.unusedVariables false
set_option maxHeartbeats 4000000
set_option linter.unusedSimpArgs false
namespace Tr
open Ieee
def pwQ(n:Int):Rat:=if n<0 then Rat.divInt 1 ((2 ^ (-n).toNat:Nat):Int) else(((2 ^ n.toNat:Nat):Int):Rat)
theorem pow_rat{t:Nat}:(((2 ^ t:Nat):Int):Rat)=((2 ^ t:Nat):Rat):=rfl
theorem fq_digits{s:Bool}{b m:Nat}{e:Int}(he:-1074≤e)(hv:VV b=m*2 ^ (e+1074).toNat):fq s b=(((if s then -(m:Int) else(m:Int)):Int):Rat)*pwQ e:=by
 have main:fq false b=((m:Nat):Rat)*pwQ e:=by
  have hu:=fq_units false b
  simp only[Bool.false_eq_true,if_false] at hu
  have hv2:((VV b:Nat):Rat)=((m:Nat):Rat)*((2 ^ (e+1074).toNat:Nat):Rat):=by rw[hv,Rat.natCast_mul]
  have hne:=uu_ne
  unfold pwQ
  by_cases h:e<0
  ·rw[if_pos h,Rat.divInt_eq_div,pow_rat]
   have h2:((2 ^ UU:Nat):Rat)=((2 ^ (-e).toNat:Nat):Rat)*((2 ^ (e+1074).toNat:Nat):Rat):=by
    rw[←two_add]; exact congrArg (fun k=>((2 ^ k:Nat):Rat)) (by rw[UU_eq]; omega)
   have h3:=Rat.ne_of_gt (two_pos (-e).toNat)
   have h4:=Rat.ne_of_gt (two_pos (e+1074).toNat)
   have h5:((1:Int):Rat)=1:=rfl
   rw[h5]
   generalize ((2 ^ (-e).toNat:Nat):Rat)=p at *
   generalize ((2 ^ (e+1074).toNat:Nat):Rat)=r at *
   generalize ((2 ^ UU:Nat):Rat)=u at *
   generalize ((VV b:Nat):Rat)=v at *
   generalize ((m:Nat):Rat)=k at *
   generalize fq false b=f at *
   subst h2; subst hv2
   grind
  ·rw[if_neg h,pow_rat]
   have h2:((2 ^ (e+1074).toNat:Nat):Rat)=((2 ^ e.toNat:Nat):Rat)*((2 ^ UU:Nat):Rat):=by
    rw[←two_add]; exact congrArg (fun k=>((2 ^ k:Nat):Rat)) (by rw[UU_eq]; omega)
   generalize ((2 ^ e.toNat:Nat):Rat)=p at *
   generalize ((2 ^ (e+1074).toNat:Nat):Rat)=r at *
   generalize ((2 ^ UU:Nat):Rat)=u at *
   generalize ((VV b:Nat):Rat)=v at *
   generalize ((m:Nat):Rat)=k at *
   generalize fq false b=f at *
   subst h2; subst hv2
   grind
 cases s
 ·exact main
 ·have h1:=fq_neg false b
  rw[Bool.not_false] at h1
  rw[h1,main]
  simp only[if_true,Rat.intCast_neg]
  have e2:(((m:Nat):Int):Rat)=((m:Nat):Rat):=rfl
  rw[e2]
  generalize ((m:Nat):Rat)=k
  generalize pwQ e=p
  grind
theorem vv_digits(b:Nat):VV b=(if 0<b / 4503599627370496 then b % 4503599627370496+4503599627370496 else b % 4503599627370496)*2 ^ ((if 0<b / 4503599627370496 then((b / 4503599627370496:Nat):Int) else 1) - 1075+1074).toNat:=by
 by_cases h:b<4503599627370496
 ·rw[Nat.div_eq_of_lt h,if_neg (by omega),if_neg (by omega),Nat.mod_eq_of_lt h]
  unfold VV; rw[if_pos h]; simp
 ·rw[if_pos (by omega),if_pos (by omega)]
  unfold VV; rw[if_neg h,Nat.add_comm]
  congr 2
  omega
end Tr
namespace Go.Proofs.YthklnbaddobieaaGreat
open Go.RowKit Tr
theorem i_add(t:TypeId)(k:IntKind)(a b c:Int)(h:k.wrap (a+b)=c):∀(xo yo:Operand) (w:World),(do eqGuard .add t xo yo (.int k a) (.int k b); binOp .add t (.int k a) (.int k b):Sem Value).run Tryz.prog w=.ok (.int k c) w:=by
 intro xo yo w; simp[eqGuard,binOp,Op.intArith,h]
theorem i_sub(t:TypeId)(k:IntKind)(a b c:Int)(h:k.wrap (a - b)=c):∀(xo yo:Operand) (w:World),(do eqGuard .sub t xo yo (.int k a) (.int k b); binOp .sub t (.int k a) (.int k b):Sem Value).run Tryz.prog w=.ok (.int k c) w:=by
 intro xo yo w; simp[eqGuard,binOp,Op.intArith,h]
theorem u64_remL(t:TypeId)(a k:Nat)(c:Int)(hc:c=(k:Int))(hk:k≠0):∀(xo yo:Operand) (w:World),(do eqGuard .rem t xo yo (.int .u64 a) (.int .u64 c); binOp .rem t (.int .u64 a) (.int .u64 c):Sem Value).run Tryz.prog w=.ok (.int .u64 ((a % k:Nat):Int)) w:=by
 subst hc; exact u64_rem t a k hk
theorem u64_quoL(t:TypeId)(a k:Nat)(c:Int)(hc:c=(k:Int))(hk:k≠0)(ha:a<18446744073709551616):∀(xo yo:Operand) (w:World),(do eqGuard .quo t xo yo (.int .u64 a) (.int .u64 c); binOp .quo t (.int .u64 a) (.int .u64 c):Sem Value).run Tryz.prog w=.ok (.int .u64 ((a / k:Nat):Int)) w:=by
 subst hc; exact u64_quo t a k hk ha
theorem conv_ui(n m:Int)(s t:TypeId)(hs:∃ d,Tryz.prog.underlying s=some d)(ht:Tryz.prog.underlying t=some (.int .i64))(hm:IntKind.i64.wrap n=m):∀ w,(convert s t (.int .u64 n)).run Tryz.prog w=.ok (.int .i64 m) w:=by
 obtain⟨d,hs⟩:=hs
 intro w; simp[convert,run_underlying hs,run_underlying ht,Conv.intToInt,hm]
theorem RL_pw{n:Int}(h1:-2000≤n)(h2:n≤2000):RL (pwQ n) 66:=by
 have key:∀ t,t≤2000→(words (2 ^ t)).length≤66:=fun t ht=>wl_66 (Nat.pow_lt_pow_right (by decide) (by rw[E66_eq]; omega))
 have one:(words 1).length≤66:=Nat.le_trans WL.one (by decide)
 unfold pwQ
 split
 ·refine RL_divInt ?_ one ?_
  ·have:=Nat.two_pow_pos (-n).toNat; omega
  ·rw[Int.natAbs_natCast]; exact key _ (by omega)
 ·exact RL_int _ (by rw[Int.natAbs_natCast]; exact key _ (by omega)) (by decide)
theorem dWhole(z:Int):PureC Tryz.prog 113 [encZ z] (encF (z:Rat)):=by
 have h:=sof 1 (by decide) (by decide)
 rw[show(1:Int)=((1:Nat):Int) from rfl,encZ_nat] at h
 exact ev_pure (hp:=false) (L:=cz z++cF (z:Rat)) tys_ok mixed
  [gp 79 [.c (.lit (.int .i64 1))] (.r (.row [.lit (.bool false),.sym 4])) eo79 h rfl rfl] [] []
  Tryz.func113 100 [.row [.sym 0,.sym 1]] (.r (.row [.sym 0,.sym 1,.lit (.bool false),.sym 4])) (by kernel_rfl) rfl rfl
theorem dPower(n:Int)(h1:-2000≤n)(h2:n≤2000):PureC Tryz.prog 48 [.int .i64 n] (encF (pwQ n)):=by
  have ho:=sof 1 (by decide) (by decide)
  unfold pwQ
  by_cases hn:n<0
  · rw[if_pos hn]
    obtain⟨N,hN⟩:∃ N,N=(-n).toNat:=⟨_,rfl⟩
    rw[←hN]
    have hw:IntKind.i64.wrap (0 - n)=(N:Int):=by rw[IntKind.wrap_i64]; omega
    have hs:=sshift1 N (by omega)
    have hp:=Nat.two_pow_pos N
    have hf:=fof 1 ((2 ^ N:Nat):Int) (by omega) (WL.one.mono (by decide)) (by
      rw[Int.natAbs_natCast]; exact Nat.le_trans (wl_66 (Nat.pow_lt_pow_right (by decide) (by rw[E66_eq]; omega))) (by decide))
    exact ev_pure (hp:=false) (L:=[gx (.int .i64 n),gx (.int .i64 N)]++cz 1++cz ((2 ^ N:Nat):Int)++rF (Rat.divInt 1 ((2 ^ N:Nat):Int))) tys_ok mixed
      [gp 79 [.c (.lit (.int .i64 1))] (.r (.row [.sym 2,.sym 3])) eo79 ho rfl rfl,gp 112 [.row [.sym 2,.sym 3],.c (.sym 1)] (.r (.row [.sym 4,.sym 5])) eo112 hs rfl rfl,gp 78 [.row [.sym 2,.sym 3],.row [.sym 4,.sym 5]] (.r (.row [.sym 6,.sym 7,.sym 8,.sym 9])) eo78 hf rfl rfl]
      [gbInt .lss 3 .i64 (.sym 0) (.lit (.int .i64 0)) n 0 true (by simp[cmpB,hn]) rfl rfl]
      [goNeg (.c (.sym 0)) (.sym 1) (fun w=>by simp only[Op.unary,Op.intArith,Sem.run_pure,hw]) rfl rfl]
      Tryz.func48 100 [.c (.sym 0)] (.r (.row [.sym 6,.sym 7,.sym 8,.sym 9])) (by kernel_rfl) rfl rfl
  · rw[if_neg hn]
    obtain⟨N,hN⟩:∃ N,N=n.toNat:=⟨_,rfl⟩
    have hn2:n=(N:Int):=by omega
    subst hn2
    rw[Int.toNat_natCast]
    have hs:=sshift1 N (by omega)
    have hf:=dWhole ((2 ^ N:Nat):Int)
    exact ev_pure (hp:=false) (L:=[gx (.int .i64 N)]++cz 1++cz ((2 ^ N:Nat):Int)++rF ((((2 ^ N:Nat):Int):Rat))) tys_ok mixed
      [gp 79 [.c (.lit (.int .i64 1))] (.r (.row [.sym 1,.sym 2])) eo79 ho rfl rfl,gp 112 [.row [.sym 1,.sym 2],.c (.sym 0)] (.r (.row [.sym 3,.sym 4])) eo112 hs rfl rfl,gp 113 [.row [.sym 3,.sym 4]] (.r (.row [.sym 5,.sym 6,.sym 7,.sym 8])) eo113 hf rfl rfl]
      [gbInt .lss 3 .i64 (.sym 0) (.lit (.int .i64 0)) (N:Int) 0 false (by simp[cmpB]) rfl rfl] []
      Tryz.func48 100 [.c (.sym 0)] (.r (.row [.sym 5,.sym 6,.sym 7,.sym 8])) (by kernel_rfl) rfl rfl
theorem dExact{s:Bool}{b:Nat}(hb:b≤GW):PureC Tryz.prog 51 [.float .f64 (sgw s b)] (encF (fq s b)):=by
  obtain⟨X,hX⟩:∃ X,X=sgw s b:=⟨_,rfl⟩
  have hb63:=gw63 hb
  have hXl:X<18446744073709551616:=by rw[hX]; exact sgw_lt hb
  have x1:X % 4503599627370496=b % 4503599627370496:=by rw[hX]; unfold sgw; split<;>omega
  have x2:X / 4503599627370496 % 2048=b / 4503599627370496:=by rw[hX]; unfold sgw; split<;>omega
  have x3:decide (9223372036854775808≤X)=s:=by rw[hX]; cases s<;>simp[sgw]<;>omega
  obtain⟨m,hm⟩:∃ m:Nat,m=(if 0<b / 4503599627370496 then b % 4503599627370496+4503599627370496 else b % 4503599627370496):=⟨_,rfl⟩
  obtain⟨e,he⟩:∃ e:Int,e=(if 0<b / 4503599627370496 then((b / 4503599627370496:Nat):Int) else 1) - 1075:=⟨_,rfl⟩
  have hv:=vv_digits b
  rw[←hm,←he] at hv
  have hE:b / 4503599627370496≤2046:=by unfold GW at hb; omega
  have he1:-1074≤e:=by rw[he]; split<;>omega
  have he2:e≤1000:=by rw[he]; split<;>omega
  have hm2:m<9007199254740992:=by rw[hm]; split<;>omega
  have hq:=fun t=>fq_digits (s:=t) he1 hv
  have hf1:=hq false
  simp only[Bool.false_eq_true,if_false] at hf1
  have hI:=fint (m:Int) (by omega) (by omega)
  have hP:=dPower e (by omega) (by omega)
  have hT:=ftimes ((m:Int):Rat) (pwQ e) ((RL_i64 (m:Int) (by omega) (by omega)).mono (by decide)) ((RL_pw (by omega) (by omega)).mono (by decide))
  rw[←hf1] at hT
  have hN:=fneg (fq false b)
  have hneg:-fq false b=fq true b:=by rw[←fq_neg]; rfl
  rw[hneg] at hN
  rw[←hX]
  have hb1:=fun w=>bits_of X w
  have ccr:=conv_ui ((X % 4503599627370496:Nat):Int) ((X % 4503599627370496:Nat):Int) 41 2 ⟨_,Tryz.underlying41⟩ Tryz.underlying2 (by rw[IntKind.wrap_i64]; omega)
  have cce:=conv_ui ((X / 4503599627370496 % 2048:Nat):Int) ((X / 4503599627370496 % 2048:Nat):Int) 41 3 ⟨_,Tryz.underlying41⟩ Tryz.underlying3 (by rw[IntKind.wrap_i64]; omega)
  have hge:cmpB .geq (X:Int) 9223372036854775808=some s:=by
    show some (decide ((X:Int)≥9223372036854775808))=some s
    rw[←x3]; congr 1; rw[decide_eq_decide]; omega
  have kB:(4503599627370496:Int)=((4503599627370496:Nat):Int):=by decide
  have kE:(2048:Int)=((2048:Nat):Int):=by decide
  have hl:X / 4503599627370496<18446744073709551616:=Nat.lt_of_le_of_lt (Nat.div_le_self _ _) hXl
  by_cases hE0:0<b / 4503599627370496
  · rw[if_pos hE0] at hm he
    have a1:IntKind.i64.wrap (((X % 4503599627370496:Nat):Int)+4503599627370496)=(m:Int):=by rw[IntKind.wrap_i64,x1,hm]; omega
    have a2:IntKind.i64.wrap (((X / 4503599627370496 % 2048:Nat):Int) - 1075)=e:=by rw[IntKind.wrap_i64,x2,he]; omega
    have hgt:cmpB .gtr ((X / 4503599627370496 % 2048:Nat):Int) 0=some true:=by rw[x2]; exact congrArg some (decide_eq_true (show((b / 4503599627370496:Nat):Int)>0 by omega))
    cases s
    · exact ev_pure (hp := false) (L := [gx (.float .f64 X),gx (.int .u64 X),gx (.int .u64 ((X % 4503599627370496 : Nat) : Int)),gx (.int .i64 ((X % 4503599627370496 : Nat) : Int)),gx (.int .u64 ((X / 4503599627370496 : Nat) : Int)),gx (.int .u64 ((X / 4503599627370496 % 2048 : Nat) : Int)),gx (.int .i64 ((X / 4503599627370496 % 2048 : Nat) : Int)),gx (.int .i64 (m : Int)),gx (.int .i64 e)] ++ rF ((m : Int) : Rat) ++ rF (pwQ e) ++ rF (fq false b) ++ rF (fq true b)) tys_ok mixed
        [gp 115 [.c (.sym 7)] (.r (.row [.sym 9,.sym 10,.sym 11,.sym 12])) eo115 hI rfl rfl,gp 48 [.c (.sym 8)] (.r (.row [.sym 13,.sym 14,.sym 15,.sym 16])) eo48 hP rfl rfl,gp 114 [.row [.sym 9,.sym 10,.sym 11,.sym 12],.row [.sym 13,.sym 14,.sym 15,.sym 16]] (.r (.row [.sym 17,.sym 18,.sym 19,.sym 20])) eo114 hT rfl rfl]
        [gb .rem 41 (.c (.sym 1)) (.c (.lit (.int .u64 4503599627370496))) (.sym 2) (u64_remL _ X 4503599627370496 _ kB (by decide)) rfl rfl rfl,gb .quo 41 (.c (.sym 1)) (.c (.lit (.int .u64 4503599627370496))) (.sym 4) (u64_quoL _ X 4503599627370496 _ kB (by decide) hXl) rfl rfl rfl,gb .rem 41 (.c (.sym 4)) (.c (.lit (.int .u64 2048))) (.sym 5) (u64_remL _ (X / 4503599627370496) 2048 _ kE (by decide)) rfl rfl rfl,gbInt .gtr 3 .i64 (.sym 6) (.lit (.int .i64 0)) _ _ true hgt rfl rfl,gb .add 2 (.c (.sym 3)) (.c (.lit (.int .i64 4503599627370496))) (.sym 7) (i_add _ _ _ _ _ a1) rfl rfl rfl,gb .sub 3 (.c (.sym 6)) (.c (.lit (.int .i64 1075))) (.sym 8) (i_sub _ _ _ _ _ a2) rfl rfl rfl,gbInt .geq 41 .u64 (.sym 1) (.lit (.int .u64 9223372036854775808)) _ _ false hge rfl rfl]
        [goExt 20 [.c (.sym 0)] (.c (.sym 1)) hb1 rfl rfl,goConv 41 2 (.c (.sym 2)) (.sym 3) ccr rfl rfl,goConv 41 3 (.c (.sym 5)) (.sym 6) cce rfl rfl]
        Tryz.func51 100 [.c (.sym 0)] (.r (.row [.sym 17,.sym 18,.sym 19,.sym 20])) (by kernel_rfl) rfl rfl
    · exact ev_pure (hp := false) (L := [gx (.float .f64 X),gx (.int .u64 X),gx (.int .u64 ((X % 4503599627370496 : Nat) : Int)),gx (.int .i64 ((X % 4503599627370496 : Nat) : Int)),gx (.int .u64 ((X / 4503599627370496 : Nat) : Int)),gx (.int .u64 ((X / 4503599627370496 % 2048 : Nat) : Int)),gx (.int .i64 ((X / 4503599627370496 % 2048 : Nat) : Int)),gx (.int .i64 (m : Int)),gx (.int .i64 e)] ++ rF ((m : Int) : Rat) ++ rF (pwQ e) ++ rF (fq false b) ++ rF (fq true b)) tys_ok mixed
        [gp 115 [.c (.sym 7)] (.r (.row [.sym 9,.sym 10,.sym 11,.sym 12])) eo115 hI rfl rfl,gp 48 [.c (.sym 8)] (.r (.row [.sym 13,.sym 14,.sym 15,.sym 16])) eo48 hP rfl rfl,gp 114 [.row [.sym 9,.sym 10,.sym 11,.sym 12],.row [.sym 13,.sym 14,.sym 15,.sym 16]] (.r (.row [.sym 17,.sym 18,.sym 19,.sym 20])) eo114 hT rfl rfl,gp 53 [.row [.sym 17,.sym 18,.sym 19,.sym 20]] (.r (.row [.sym 21,.sym 22,.sym 23,.sym 24])) eo53 hN rfl rfl]
        [gb .rem 41 (.c (.sym 1)) (.c (.lit (.int .u64 4503599627370496))) (.sym 2) (u64_remL _ X 4503599627370496 _ kB (by decide)) rfl rfl rfl,gb .quo 41 (.c (.sym 1)) (.c (.lit (.int .u64 4503599627370496))) (.sym 4) (u64_quoL _ X 4503599627370496 _ kB (by decide) hXl) rfl rfl rfl,gb .rem 41 (.c (.sym 4)) (.c (.lit (.int .u64 2048))) (.sym 5) (u64_remL _ (X / 4503599627370496) 2048 _ kE (by decide)) rfl rfl rfl,gbInt .gtr 3 .i64 (.sym 6) (.lit (.int .i64 0)) _ _ true hgt rfl rfl,gb .add 2 (.c (.sym 3)) (.c (.lit (.int .i64 4503599627370496))) (.sym 7) (i_add _ _ _ _ _ a1) rfl rfl rfl,gb .sub 3 (.c (.sym 6)) (.c (.lit (.int .i64 1075))) (.sym 8) (i_sub _ _ _ _ _ a2) rfl rfl rfl,gbInt .geq 41 .u64 (.sym 1) (.lit (.int .u64 9223372036854775808)) _ _ true hge rfl rfl]
        [goExt 20 [.c (.sym 0)] (.c (.sym 1)) hb1 rfl rfl,goConv 41 2 (.c (.sym 2)) (.sym 3) ccr rfl rfl,goConv 41 3 (.c (.sym 5)) (.sym 6) cce rfl rfl]
        Tryz.func51 100 [.c (.sym 0)] (.r (.row [.sym 21,.sym 22,.sym 23,.sym 24])) (by kernel_rfl) rfl rfl
  · rw[if_neg hE0] at hm he
    have hgt:cmpB .gtr ((X / 4503599627370496 % 2048:Nat):Int) 0=some false:=by rw[x2]; exact congrArg some (decide_eq_false (show ¬((b / 4503599627370496:Nat):Int)>0 by omega))
    subst he
    rw[hm,←x1] at hI hT hf1
    cases s
    · exact ev_pure (hp := false) (L := [gx (.float .f64 X),gx (.int .u64 X),gx (.int .u64 ((X % 4503599627370496 : Nat) : Int)),gx (.int .i64 ((X % 4503599627370496 : Nat) : Int)),gx (.int .u64 ((X / 4503599627370496 : Nat) : Int)),gx (.int .u64 ((X / 4503599627370496 % 2048 : Nat) : Int)),gx (.int .i64 ((X / 4503599627370496 % 2048 : Nat) : Int)),gx (.int .i64 (m : Int)),gx (.int .i64 (-1074))] ++ rF (((X % 4503599627370496 : Nat) : Int) : Rat) ++ rF (pwQ (1 - 1075)) ++ rF (fq false b) ++ rF (fq true b)) tys_ok mixed
        [gp 115 [.c (.sym 3)] (.r (.row [.sym 9,.sym 10,.sym 11,.sym 12])) eo115 hI rfl rfl,gp 48 [.c (.lit (.int .i64 (-1074)))] (.r (.row [.sym 13,.sym 14,.sym 15,.sym 16])) eo48 hP rfl rfl,gp 114 [.row [.sym 9,.sym 10,.sym 11,.sym 12],.row [.sym 13,.sym 14,.sym 15,.sym 16]] (.r (.row [.sym 17,.sym 18,.sym 19,.sym 20])) eo114 hT rfl rfl]
        [gb .rem 41 (.c (.sym 1)) (.c (.lit (.int .u64 4503599627370496))) (.sym 2) (u64_remL _ X 4503599627370496 _ kB (by decide)) rfl rfl rfl,gb .quo 41 (.c (.sym 1)) (.c (.lit (.int .u64 4503599627370496))) (.sym 4) (u64_quoL _ X 4503599627370496 _ kB (by decide) hXl) rfl rfl rfl,gb .rem 41 (.c (.sym 4)) (.c (.lit (.int .u64 2048))) (.sym 5) (u64_remL _ (X / 4503599627370496) 2048 _ kE (by decide)) rfl rfl rfl,gbInt .gtr 3 .i64 (.sym 6) (.lit (.int .i64 0)) _ _ false hgt rfl rfl,gbInt .geq 41 .u64 (.sym 1) (.lit (.int .u64 9223372036854775808)) _ _ false hge rfl rfl]
        [goExt 20 [.c (.sym 0)] (.c (.sym 1)) hb1 rfl rfl,goConv 41 2 (.c (.sym 2)) (.sym 3) ccr rfl rfl,goConv 41 3 (.c (.sym 5)) (.sym 6) cce rfl rfl]
        Tryz.func51 100 [.c (.sym 0)] (.r (.row [.sym 17,.sym 18,.sym 19,.sym 20])) (by kernel_rfl) rfl rfl
    · exact ev_pure (hp := false) (L := [gx (.float .f64 X),gx (.int .u64 X),gx (.int .u64 ((X % 4503599627370496 : Nat) : Int)),gx (.int .i64 ((X % 4503599627370496 : Nat) : Int)),gx (.int .u64 ((X / 4503599627370496 : Nat) : Int)),gx (.int .u64 ((X / 4503599627370496 % 2048 : Nat) : Int)),gx (.int .i64 ((X / 4503599627370496 % 2048 : Nat) : Int)),gx (.int .i64 (m : Int)),gx (.int .i64 (-1074))] ++ rF (((X % 4503599627370496 : Nat) : Int) : Rat) ++ rF (pwQ (1 - 1075)) ++ rF (fq false b) ++ rF (fq true b)) tys_ok mixed
        [gp 115 [.c (.sym 3)] (.r (.row [.sym 9,.sym 10,.sym 11,.sym 12])) eo115 hI rfl rfl,gp 48 [.c (.lit (.int .i64 (-1074)))] (.r (.row [.sym 13,.sym 14,.sym 15,.sym 16])) eo48 hP rfl rfl,gp 114 [.row [.sym 9,.sym 10,.sym 11,.sym 12],.row [.sym 13,.sym 14,.sym 15,.sym 16]] (.r (.row [.sym 17,.sym 18,.sym 19,.sym 20])) eo114 hT rfl rfl,gp 53 [.row [.sym 17,.sym 18,.sym 19,.sym 20]] (.r (.row [.sym 21,.sym 22,.sym 23,.sym 24])) eo53 hN rfl rfl]
        [gb .rem 41 (.c (.sym 1)) (.c (.lit (.int .u64 4503599627370496))) (.sym 2) (u64_remL _ X 4503599627370496 _ kB (by decide)) rfl rfl rfl,gb .quo 41 (.c (.sym 1)) (.c (.lit (.int .u64 4503599627370496))) (.sym 4) (u64_quoL _ X 4503599627370496 _ kB (by decide) hXl) rfl rfl rfl,gb .rem 41 (.c (.sym 4)) (.c (.lit (.int .u64 2048))) (.sym 5) (u64_remL _ (X / 4503599627370496) 2048 _ kE (by decide)) rfl rfl rfl,gbInt .gtr 3 .i64 (.sym 6) (.lit (.int .i64 0)) _ _ false hgt rfl rfl,gbInt .geq 41 .u64 (.sym 1) (.lit (.int .u64 9223372036854775808)) _ _ true hge rfl rfl]
        [goExt 20 [.c (.sym 0)] (.c (.sym 1)) hb1 rfl rfl,goConv 41 2 (.c (.sym 2)) (.sym 3) ccr rfl rfl,goConv 41 3 (.c (.sym 5)) (.sym 6) cce rfl rfl]
        Tryz.func51 100 [.c (.sym 0)] (.r (.row [.sym 21,.sym 22,.sym 23,.sym 24])) (by kernel_rfl) rfl rfl
end Go.Proofs.YthklnbaddobieaaGreat
set_option linter.unusedSimpArgs false
namespace Tr
open Ieee
theorem lt_fq_pos{q:Rat}(h:0≤q)(b:Nat):q<fq false b↔uq q<(VV b:Rat):=by
 rw[lt_units (two_pos UU),fq_units,uq_pos h]; rfl
end Tr
namespace Go.Proofs.YthklnbaddobieaaGreat
open Go.RowKit Tr
def belS(x y:AC):AS:={ tmps:=slotsOf 25 [(1,.r (.c (.own 0 0))),(3,.r (.c x)),(4,.r (.c y))],blocks:=[.live ⟨[.sym 0,.sym 1,.sym 2,.sym 3],25,none⟩] }
def belLC:LC:={ key:=2,pre:=belS (.lit (.int .u64 0)) (.lit (.int .u64 9218868437227405311)),ex:=.exit 0,post:={ tmps:=slotsOf 25 [(3,.r (.c (.sym 4)))],blocks:=[.dead] } }
structure BelI(q:Rat) where
 lo:Nat
 hi:Nat
 h:Half (uq q) lo hi
def belL(q:Rat)(lo hi:Nat):List GF:=rF q++[gx (.int .u64 lo),gx (.int .u64 hi),gx (.int .u64 ((hi - lo:Nat):Int)),gx (.int .u64 (((hi - lo) / 2:Nat):Int)),gx (.int .u64 ((hi - (hi - lo) / 2:Nat):Int)),gx (.float .f64 (hi - (hi - lo) / 2))]++rF (fq false (hi - (hi - lo) / 2))++[gx (.int .i64 (cmpR (fq false (hi - (hi - lo) / 2)) q)),gx (.int .u64 ((hi - (hi - lo) / 2 - 1:Nat):Int))]
theorem bel_gw{q:Rat}(i:BelI q):i.lo≤i.hi∧i.hi≤9218868437227405311:=⟨i.h.1,i.h.2.1⟩
theorem cmpR_leq{x y:Rat}(r:Bool)(h:r=true↔¬y<x):cmpB .leq (cmpR x y) 0=some r:=by
 unfold cmpR
 by_cases c:x<y
 ·rw[if_pos c,h.2 (fun k=>Rat.lt_irrefl (rlt_le c (Rat.le_of_lt k)))]; rfl
 ·rw[if_neg c]
  by_cases e:x=y
  ·rw[if_pos e,h.2 (by rw[e]; exact Rat.lt_irrefl)]; rfl
  ·rw[if_neg e]
   have:r=false:=by
    cases r
    ·rfl
    ·exact absurd (Rat.le_antisymm (Rat.not_lt.1 (h.1 rfl)) (Rat.not_lt.1 c)) e
   rw[this]; rfl
noncomputable def belG{q:Rat}(i:BelI q):Bool:=decide (¬uq q<(VV (i.hi - (i.hi - i.lo) / 2):Rat))
theorem belG_iff{q:Rat}(h0:0≤q)(i:BelI q):belG i=true↔¬q<fq false (i.hi - (i.hi - i.lo) / 2):=by
 unfold belG; rw[decide_eq_true_eq,lt_fq_pos h0]
theorem bel_s1{q:Rat}(i:BelI q):IntKind.u64.wrap ((i.hi:Int) - (i.lo:Int))=((i.hi - i.lo:Nat):Int):=by
 have:=bel_gw i; rw[IntKind.wrap_u64]; omega
theorem bel_s2{q:Rat}(i:BelI q):IntKind.u64.wrap ((i.hi:Int) - (((i.hi - i.lo) / 2:Nat):Int))=((i.hi - (i.hi - i.lo) / 2:Nat):Int):=by
 have:=bel_gw i; rw[IntKind.wrap_u64]; omega
theorem bel_s3{q:Rat}(i:BelI q)(h:i.lo<i.hi):IntKind.u64.wrap (((i.hi - (i.hi - i.lo) / 2:Nat):Int) - 1)=((i.hi - (i.hi - i.lo) / 2 - 1:Nat):Int):=by
 have:=bel_gw i; rw[IntKind.wrap_u64]; omega
theorem bel_mid{q:Rat}(i:BelI q):i.hi - (i.hi - i.lo) / 2≤GW:=by have:=bel_gw i; unfold GW; omega
theorem bel_dif{q:Rat}(i:BelI q):i.hi - i.lo<18446744073709551616:=by have:=bel_gw i; omega
theorem bel_lt1{q:Rat}(i:BelI q)(h:i.lo<i.hi):cmpB .lss (i.lo:Int) (i.hi:Int)=some true:=congrArg some (decide_eq_true (show(i.lo:Int)<(i.hi:Int) by omega))
theorem bel_lt0{q:Rat}(i:BelI q)(h:¬i.lo<i.hi):cmpB .lss (i.lo:Int) (i.hi:Int)=some false:=congrArg some (decide_eq_false (show ¬(i.lo:Int)<(i.hi:Int) by omega))
noncomputable def belX{q:Rat}(h0:0≤q)(hl:RL q 2048)(g:Bool)(i:BelI q)(hg:g=belG i):Cx :=
  if h:i.lo<i.hi then
    gcx (P:=Tryz.prog) tys true (belL q i.lo i.hi)
      [gp 51 [.c (.sym 9)] (.r (.row [.sym 10,.sym 11,.sym 12,.sym 13])) eo51 (dExact (s:=false) (b:=i.hi - (i.hi - i.lo) / 2) (bel_mid i)) rfl rfl,gp 46 [.row [.sym 10,.sym 11,.sym 12,.sym 13],.row [.sym 0,.sym 1,.sym 2,.sym 3]] (.r (.c (.sym 14))) eo46 (fcmp (fq false (i.hi - (i.hi - i.lo) / 2)) q ((RL_fq (bel_mid i)).mono (by decide)) (hl.mono (by decide))) rfl rfl]
      [gbInt .lss 41 .u64 (.sym 4) (.sym 5) i.lo i.hi true (bel_lt1 i h) rfl rfl,gb .sub 41 (.c (.sym 5)) (.c (.sym 4)) (.sym 6) (i_sub _ _ _ _ _ (bel_s1 i)) rfl rfl rfl,gb .quo 41 (.c (.sym 6)) (.c (.lit (.int .u64 2))) (.sym 7) (u64_quoL _ (i.hi - i.lo) 2 2 (by decide) (by decide) (bel_dif i)) rfl rfl rfl,gb .sub 41 (.c (.sym 5)) (.c (.sym 7)) (.sym 8) (i_sub _ _ _ _ _ (bel_s2 i)) rfl rfl rfl,gbInt .leq 3 .i64 (.sym 14) (.lit (.int .i64 0)) _ _ g (cmpR_leq g (by rw[hg]; exact belG_iff h0 i)) rfl rfl,gb .sub 41 (.c (.sym 8)) (.c (.lit (.int .u64 1))) (.sym 15) (i_sub _ _ _ _ _ (bel_s3 i h)) rfl rfl rfl]
      [goExt 50 [.c (.sym 8)] (.c (.sym 9)) (fun w=>of_bits ((i.hi - (i.hi - i.lo) / 2:Nat):Int) w) rfl rfl]
  else
    gcx (P:=Tryz.prog) tys true (belL q i.lo i.hi) [] [gbInt .lss 41 .u64 (.sym 4) (.sym 5) i.lo i.hi false (bel_lt0 i h) rfl rfl] []
theorem belX_ok{q:Rat}(h0:0≤q)(hl:RL q 2048)(g:Bool)(i:BelI q)(hg:g=belG i):CxOk Tryz.prog (gT (belL q i.lo i.hi)) (belX h0 hl g i hg):=by
 unfold belX; split<;>exact gcx_ok tys_ok _ _ _
theorem bel_pairs{T T':Nat→Fact}{l:List (Nat×Nat)}(h:∀ p∈l,T p.1=T' p.2):GivesBy T T' l []:=givesBy_of h (by intro p hp; cases hp)
noncomputable def belL0(q:Rat):List GF:=rF q++[gx (.int .u64 (bel (uq q)))]
theorem bel_loop(q:Rat)(h0:0≤q)(hl:RL q 2048)(cx0:Cx)(hc0:cx0.hp=true∧cx0.ints=gI (belL0 q)) :
  belLC.Ok Tryz.prog (gT (belL0 q)) cx0 (loopNo Tryz.f49 0):=by
 have ht0:TOk (gT (belL0 q)) cx0.ints:=by
  rw[hc0.2]; exact(gcx_ok (P:=Tryz.prog) (hp:=true) tys_ok [] [] []).table
 refine loop_ok (ι:=BelI q) (id:=0) ht0 mixed rfl (fun i=>gT (belL q i.lo i.hi)) (fun i=>belX h0 hl (belG i) i rfl) (fun i=>belX_ok h0 hl _ i rfl) (fun i=>by show(belX h0 hl (belG i) i rfl).hp=_; unfold belX; split<;>exact hc0.1.symm) (fun i=>by show(belX h0 hl (belG i) i rfl).cuts=_; unfold belX; split<;>rfl) (belS (.sym 4) (.sym 5)) (by kernel_rfl) (fun i=>by show blocksOk (belX h0 hl (belG i) i rfl) _=true; unfold belX; split<;>kernel_rfl) (by kernel_rfl)
  (by unfold blocksOk okCells; rw[hc0.2]; simp[belLC]) 60 (fun i=>i.hi - i.lo) ⟨0,GW,half_start (uq_nonneg q)⟩ [(0,0),(1,1),(2,2),(3,3)] [(.int .u64 0,4),(.int .u64 9218868437227405311,5)] (by kernel_rfl)
  (givesBy_of (by intro p hp; simp only[List.mem_cons,List.not_mem_nil,or_false] at hp; rcases hp with rfl|rfl|rfl|rfl<;>rfl) (by intro p hp; simp only[List.mem_cons,List.not_mem_nil,or_false] at hp; rcases hp with rfl|rfl<;>(intro w A; rfl))) (fun i=>?_) (fun i=>by show(belX h0 hl (belG i) i rfl).dfs=_; unfold belX; split<;>rfl)
 obtain⟨lo,hi,hh⟩:=i
 have hg:=bel_gw ⟨lo,hi,hh⟩
 have pr:∀{T T':Nat→Fact} {a b:Nat},T 0=T' 0→T 1=T' 1→T 2=T' 2→T 3=T' 3→T a=T' 4→T b=T' 5→GivesBy T T' [(0,0),(1,1),(2,2),(3,3),(a,4),(b,5)] []:=fun h0 h1 h2 h3 h4 h5=>bel_pairs (by
  intro p hp; simp only[List.mem_cons,List.not_mem_nil,or_false] at hp
  rcases hp with rfl|rfl|rfl|rfl|rfl|rfl<;>assumption)
 by_cases hlt:lo<hi
 ·left
  by_cases hc:uq q<(VV (hi - (hi - lo) / 2):Rat)
  ·refine⟨⟨lo,hi - (hi - lo) / 2 - 1,half_high hh hlt hc⟩,[(0,0),(1,1),(2,2),(3,3),(4,4),(15,5)],[],?_,pr rfl rfl rfl rfl rfl rfl,?_⟩
   ·have e:belG ⟨lo,hi,hh⟩=false:=by unfold belG; simp[hc]
    have key:∀ g (hg:g=belG ⟨lo,hi,hh⟩),g=false→goesOn (belX h0 hl g ⟨lo,hi,hh⟩ hg) 60 (loopNo Tryz.f49 0) (belS (.sym 4) (.sym 5)) [(0,0),(1,1),(2,2),(3,3),(4,4),(15,5)] []=true:=by
     intro g hg eg
     subst eg
     unfold belX
     simp only[hlt,dif_pos]
     kernel_rfl
    exact key _ rfl e
   ·show hi - (hi - lo) / 2 - 1 - lo<hi - lo
    simp only at hg; omega
  ·refine⟨⟨hi - (hi - lo) / 2,hi,half_low hh hlt (Rat.not_lt.1 hc)⟩,[(0,0),(1,1),(2,2),(3,3),(8,4),(5,5)],[],?_,pr rfl rfl rfl rfl rfl rfl,?_⟩
   ·have e:belG ⟨lo,hi,hh⟩=true:=by unfold belG; simp[hc]
    have key:∀ g (hg:g=belG ⟨lo,hi,hh⟩),g=true→goesOn (belX h0 hl g ⟨lo,hi,hh⟩ hg) 60 (loopNo Tryz.f49 0) (belS (.sym 4) (.sym 5)) [(0,0),(1,1),(2,2),(3,3),(8,4),(5,5)] []=true:=by
     intro g hg eg
     subst eg
     unfold belX
     simp only[hlt,dif_pos]
     kernel_rfl
    exact key _ rfl e
   ·show hi - (hi - (hi - lo) / 2)<hi - lo
    simp only at hg; omega
 ·right
  have he:hi=lo:=by have:=hh.1; omega
  subst he
  refine⟨[(4,4)],[],?_,bel_pairs (by
   intro p hp; simp only[List.mem_cons,List.not_mem_nil,or_false] at hp; subst hp
   have:=below0_fun (half_end hh) (bel_spec (uq_nonneg q))
   show(gx (.int .u64 ((hi:Nat):Int))).R=(gx (.int .u64 ((bel (uq q):Nat):Int))).R
   rw[this])⟩
  have key:∀ g (hg:g=belG ⟨hi,hi,hh⟩),leaves (belX h0 hl g ⟨hi,hi,hh⟩ hg) 60 (loopNo Tryz.f49 0) (belS (.sym 4) (.sym 5)) 0 belLC.post [(4,4)] []=true:=by
   intro g hg
   unfold belX
   simp only[hlt,dif_neg,not_false_eq_true]
   kernel_rfl
  exact key _ rfl
theorem dBelow(q:Rat)(h0:0≤q)(hl:RL q 2048):PureC Tryz.prog 49 [encF q] (.int .u64 (bel (uq q):Nat)):=by
 intro w
 have:=ev_loop (hp:=true) (L:=belL0 q) tys_ok mixed [] [] [] [belLC]
  Tryz.func49 100 [.row [.sym 0,.sym 1,.sym 2,.sym 3]] (.r (.c (.sym 4))) (by kernel_rfl) (by kernel_rfl) rfl (fun z hz k hk _=>by
   have e1:z=loopNo Tryz.f49 0:=List.mem_singleton.1 hz
   have e2:k=belLC:=List.mem_singleton.1 hk
   subst e1; subst e2
   exact bel_loop q h0 hl _ ⟨rfl,rfl⟩) w NoA [encF q] (fun _=>rcv_none w) (fun _ h=>h.elim) ((arsV_ok rfl).2 rfl)
 exact this.mono fun r w' ⟨u,h1,h2,h3⟩=>⟨by rw[h1,(AV.gv_ok (u:=.int .u64 (bel (uq q):Nat)) rfl).1 h2],h3⟩
end Go.Proofs.YthklnbaddobieaaGreat
set_option linter.unusedSimpArgs false
namespace Tr
open Ieee
def aQ(q:Rat):Rat:=if q<0 then -q else q
theorem aQ_pos(q:Rat):0≤aQ q:=by unfold aQ; split<;>grind
theorem uq_aQ(q:Rat):uq (aQ q)=uq q:=by unfold aQ; split; exact uq_opp q; rfl
theorem aQ_num(q:Rat):(aQ q).num.natAbs=q.num.natAbs:=by unfold aQ; split; rw[Rat.neg_num,Int.natAbs_neg]; rfl
theorem aQ_den(q:Rat):(aQ q).den=q.den:=by unfold aQ; split; rw[Rat.neg_den]; rfl
theorem aQ_sgn(q:Rat):decide ((aQ q).num<0)=false:=by
 rw[num_neg]; exact decide_eq_false (Rat.not_lt.2 (aQ_pos q))
theorem thr_pw:(pwQ 1024 - pwQ 970)*((2 ^ UU:Nat):Rat)=(thrN:Rat):=by
 unfold pwQ
 rw[if_neg (by decide),if_neg (by decide),pow_rat,pow_rat]
 have e1:((2 ^ (1024:Int).toNat:Nat):Rat)=((2 ^ (970:Int).toNat:Nat):Rat)*18014398509481984:=by
  have:(2:Nat) ^ (1024:Int).toNat=2 ^ (970:Int).toNat*2 ^ 54:=by rw[←Nat.pow_add]; exact congrArg (fun k=>2 ^ k) (show(1024:Int).toNat=(970:Int).toNat+54 from rfl)
  rw[this,Rat.natCast_mul]; rfl
 have e2:((2 ^ (970:Int).toNat:Nat):Rat)*((2 ^ UU:Nat):Rat)=((2 ^ U44:Nat):Rat):=by
  rw[←two_add]; exact congrArg (fun k=>((2 ^ k:Nat):Rat)) (by rw[UU_eq,U44_eq]; rfl)
 have e3:(thrN:Rat)=18014398509481983*((2 ^ U44:Nat):Rat):=by unfold thrN; rw[Rat.natCast_mul]; rfl
 rw[e1,e3,←e2]
 generalize ((2 ^ (970:Int).toNat:Nat):Rat)=p
 generalize ((2 ^ UU:Nat):Rat)=u
 grind
theorem pw_top:pwQ 1024*((2 ^ UU:Nat):Rat)=(VV (GW+1):Rat):=by
 unfold pwQ
 rw[if_neg (by decide),pow_rat,VV_G1]
 have e1:((2 ^ (1024:Int).toNat:Nat):Rat)*((2 ^ UU:Nat):Rat)=((2 ^ (U44+54):Nat):Rat):=by
  rw[←two_add]; exact congrArg (fun k=>((2 ^ k:Nat):Rat)) (by rw[UU_eq,U44_eq]; rfl)
 rw[e1]
 have e2:(2:Nat) ^ (U44+54)=4*(4503599627370496*2 ^ U44):=by
  rw[Nat.pow_add,←Nat.mul_assoc,Nat.mul_comm]
 rw[e2]
theorem le_thr{q:Rat}:¬(aQ q<pwQ 1024 - pwQ 970)↔¬uq q<(thrN:Rat):=by
 rw[lt_units (two_pos UU),thr_pw,←uq_pos (aQ_pos q),uq_aQ]
end Tr
namespace Go.Proofs.YthklnbaddobieaaGreat
open Go.RowKit Tr
def docV(r:Option Nat):Value:=match r with|some y=>.tuple #[.float .f64 y,.bool true]|none=>.tuple #[.float .f64 0,.bool false]
theorem sgn_lt{q:Rat}(h:q<0):cmpB .lss q.num.sign 0=some true:=by
 have:q.num<0:=by have:=num_neg (q:=q); rw[decide_eq_true h] at this; exact of_decide_eq_true this
 rw[Int.sign_eq_neg_one_of_neg this]; rfl
theorem num_nn{q:Rat}(h:¬q<0):0≤q.num:=Rat.num_nonneg.2 (Rat.not_lt.1 h)
theorem sgn_nlt{q:Rat}(h:¬q<0):cmpB .lss q.num.sign 0=some false:=by
 have h1:=num_nn h
 rcases Int.lt_or_eq_of_le h1 with k|k
 ·rw[Int.sign_eq_one_of_pos k]; rfl
 ·rw[←k]; rfl
theorem RL_big{q:Rat}(h:ShortF q):RL q 2048:=(RL_sF h).mono (by decide)
end Go.Proofs.YthklnbaddobieaaGreat
