/- Laws for the walk. -/
import Derived.Test.YthklnbaddobieaaGreatZbg
set_option linter.unusedVariables false
set_option maxHeartbeats 4000000
set_option linter.unusedSimpArgs false
namespace Tr
open Ieee
def aQ(q:Rat):Rat:=if q<0 then -q else q
theorem aQ_pos(q:Rat):0≤aQ q:=by unfold aQ; split<;>grind
theorem uq_aQ(q:Rat):uq (aQ q)=uq q:=by unfold aQ; split; exact uq_opp q; rfl
theorem aQ_num(q:Rat):(aQ q).num.natAbs=q.num.natAbs:=by unfold aQ; split; rw[Rat.neg_num,Int.natAbs_neg]; rfl
theorem aQ_den(q:Rat):(aQ q).den=q.den:=by unfold aQ; split; rw[Rat.neg_den]; rfl
theorem aQ_sgn(q:Rat):decide ((aQ q).num<0)=false:=by
 rw[num_neg]; exact decide_eq_false (Rat.not_lt.2 (aQ_pos q))
theorem thr_pw:(pwQ 1024 - pwQ 970)*((2 ^ UU:Nat):Rat)=(thrN:Rat):=by
 unfold pwQ
 rw[if_neg (by decide),if_neg (by decide),pow_rat,pow_rat]
 have e1:((2 ^ (1024:Int).toNat:Nat):Rat)=((2 ^ (970:Int).toNat:Nat):Rat)*18014398509481984:=by
  have:(2:Nat) ^ (1024:Int).toNat=2 ^ (970:Int).toNat*2 ^ 54:=by rw[←Nat.pow_add]; exact congrArg (fun k=>2 ^ k) (show(1024:Int).toNat=(970:Int).toNat+54 from rfl)
  rw[this,Rat.natCast_mul]; rfl
 have e2:((2 ^ (970:Int).toNat:Nat):Rat)*((2 ^ UU:Nat):Rat)=((2 ^ U44:Nat):Rat):=by
  rw[←two_add]; exact congrArg (fun k=>((2 ^ k:Nat):Rat)) (by rw[UU_eq,U44_eq]; rfl)
 have e3:(thrN:Rat)=18014398509481983*((2 ^ U44:Nat):Rat):=by unfold thrN; rw[Rat.natCast_mul]; rfl
 rw[e1,e3,←e2]
 generalize ((2 ^ (970:Int).toNat:Nat):Rat)=p
 generalize ((2 ^ UU:Nat):Rat)=u
 grind
theorem pw_top:pwQ 1024*((2 ^ UU:Nat):Rat)=(VV (GW+1):Rat):=by
 unfold pwQ
 rw[if_neg (by decide),pow_rat,VV_G1]
 have e1:((2 ^ (1024:Int).toNat:Nat):Rat)*((2 ^ UU:Nat):Rat)=((2 ^ (U44+54):Nat):Rat):=by
  rw[←two_add]; exact congrArg (fun k=>((2 ^ k:Nat):Rat)) (by rw[UU_eq,U44_eq]; rfl)
 rw[e1]
 have e2:(2:Nat) ^ (U44+54)=4*(4503599627370496*2 ^ U44):=by
  rw[Nat.pow_add,←Nat.mul_assoc,Nat.mul_comm]
 rw[e2]
theorem le_thr{q:Rat}:¬(aQ q<pwQ 1024 - pwQ 970)↔¬uq q<(thrN:Rat):=by
 rw[lt_units (two_pos UU),thr_pw,←uq_pos (aQ_pos q),uq_aQ]
end Tr
namespace Go.Proofs.YthklnbaddobieaaGreat
open Go.RowKit Tr
set_option maxRecDepth 100000 in
theorem run_eql_fr(w:World)(n m:Bool)(s1 s2 t1 t2:ByteArray)(r:Bool)(hr:r=true↔Value.agg #[.bool n,.string s1,.bool false,.string s2]=.agg #[.bool m,.string t1,.bool false,.string t2]) :
  (binOp .eql 25 (.agg #[.bool n,.string s1,.bool false,.string s2]) (.agg #[.bool m,.string t1,.bool false,.string t2])).run Tryz.prog w=.ok (.bool r) w:=by
 simp only[Value.agg.injEq,Array.mk.injEq,List.cons.injEq,Value.bool.injEq,Value.string.injEq,and_true] at hr
 go_simp
 simp only[toL_iff]
 cases r
 ·have hn:¬(n=m∧s1=t1∧True∧s2=t2):=fun h=>by cases hr.2 (by simpa using h)
  repeat' split
  all_goals first
   | rfl
   | (exfalso; apply hn; refine⟨?_,?_,trivial,?_⟩<;>assumption)
 ·obtain⟨rfl,rfl,_,rfl⟩:=hr.1 rfl
  simp
theorem run_eql_q(w:World)(p q:Rat)(r:Bool)(hr:r=true↔p=q):(binOp .eql 25 (encF p) (encF q)).run Tryz.prog w=.ok (.bool r) w :=
 run_eql_fr w _ _ _ _ _ _ r (by rw[hr]; exact⟨fun h=>by rw[h],fun h=>encF_inj' h⟩)
def gbQ{L:List GF}(x y:AR)(p q:Rat)(r:Bool)(hr:r=true↔p=q)(hx:x.gv L=some (encF p):=by kernel_rfl)(hy:y.gv L=some (encF q):=by kernel_rfl):GB Tryz.prog L :=
 gb .eql 25 x y (.lit (.bool r)) (agg_eql (by kernel_rfl) (fun w=>run_eql_q w p q r hr)) hx hy rfl
def docV(r:Option Nat):Value:=match r with|some y=>.tuple #[.float .f64 y,.bool true]|none=>.tuple #[.float .f64 0,.bool false]
theorem sgn_lt{q:Rat}(h:q<0):cmpB .lss q.num.sign 0=some true:=by
 have:q.num<0:=by have:=num_neg (q:=q); rw[decide_eq_true h] at this; exact of_decide_eq_true this
 rw[Int.sign_eq_neg_one_of_neg this]; rfl
theorem num_nn{q:Rat}(h:¬q<0):0≤q.num:=Rat.num_nonneg.2 (Rat.not_lt.1 h)
theorem sgn_nlt{q:Rat}(h:¬q<0):cmpB .lss q.num.sign 0=some false:=by
 have h1:=num_nn h
 rcases Int.lt_or_eq_of_le h1 with k|k
 ·rw[Int.sign_eq_one_of_pos k]; rfl
 ·rw[←k]; rfl
theorem sgn_ge{q:Rat}(h:¬q<0):cmpB .geq q.num.sign 0=some true:=by
 have h1:=num_nn h
 rcases Int.lt_or_eq_of_le h1 with k|k
 ·rw[Int.sign_eq_one_of_pos k]; rfl
 ·rw[←k]; rfl
theorem sgn_nge{q:Rat}(h:q<0):cmpB .geq q.num.sign 0=some false:=by
 have:q.num<0:=by have:=num_neg (q:=q); rw[decide_eq_true h] at this; exact of_decide_eq_true this
 rw[Int.sign_eq_neg_one_of_neg this]; rfl
theorem RL_big{q:Rat}(h:ShortF q):RL q 2048:=(RL_sF h).mono (by decide)
theorem downQ_pos{q:Rat}(h:¬q<0):downQ q=some (bel (uq q)):=by unfold downQ; rw[if_neg h]
theorem dDown_pos(q:Rat)(h:ShortF q)(h0:¬q<0):PureC Tryz.prog 16 [encF q] (docV (downQ q)):=by
  rw[downQ_pos h0]
  exact ev_pure (hp:=true) (L:=rF q++[gx (.int .i64 q.num.sign),gx (.int .u64 (bel (uq q):Nat)),gx (.float .f64 (bel (uq q)))]) tys_ok mixed
    [gp 52 [.row [.sym 0,.sym 1,.sym 2,.sym 3]] (.r (.c (.sym 4))) eo52 (fsign q) rfl rfl,gp 49 [.row [.sym 0,.sym 1,.sym 2,.sym 3]] (.r (.c (.sym 5))) eo49 (dBelow q (Rat.not_lt.1 h0) (RL_big h)) rfl rfl]
    [gbInt .geq 3 .i64 (.sym 4) (.lit (.int .i64 0)) _ _ true (sgn_ge h0) rfl rfl]
    [goExt 50 [.c (.sym 5)] (.c (.sym 6)) (fun w=>of_bits ((bel (uq q):Nat):Int) w) rfl rfl]
    Tryz.func16 100 [.row [.sym 0,.sym 1,.sym 2,.sym 3]] (.tup [.c (.sym 6),.c (.lit (.bool true))]) (by kernel_rfl) rfl rfl
theorem fq_bel{q:Rat}(h0:¬q<0):fq false (bel (uq q))=q↔(VV (bel (uq q)):Rat)=uq q:=by
 have hu:=uu_ne
 have h1:=fq_units false (bel (uq q))
 simp only[Bool.false_eq_true,if_false] at h1
 rw[uq_pos (Rat.not_lt.1 h0)] at *
 rw[←h1]
 generalize ((2 ^ UU:Nat):Rat)=u at *
 generalize fq false _=f
 constructor
 ·intro h; rw[h]
 ·intro h; grind
theorem dUp_pos(q:Rat)(h:ShortF q)(h0:¬q<0):PureC Tryz.prog 15 [encF q] (docV (upQ q)):=by
  have hB:=dBelow q (Rat.not_lt.1 h0) (RL_big h)
  have hE:=dExact (s:=false) (bel_GW q)
  have hg:=bel_GW q
  have hfq:=fq_bel h0
  unfold upQ
  rw[if_neg h0]
  obtain⟨b,hb⟩:∃ b,b=bel (uq q):=⟨_,rfl⟩
  rw[←hb] at hB hE hg hfq ⊢
  by_cases h1:(VV b:Rat)=uq q
  · rw[if_pos h1]
    have hr:fq false b=q:=hfq.2 h1
    exact ev_pure (hp:=true) (L:=rF q++[gx (.int .i64 q.num.sign),gx (.int .u64 b),gx (.float .f64 b)]++rF (fq false b)) tys_ok mixed
      [gp 52 [.row [.sym 0,.sym 1,.sym 2,.sym 3]] (.r (.c (.sym 4))) eo52 (fsign q) rfl rfl,gp 49 [.row [.sym 0,.sym 1,.sym 2,.sym 3]] (.r (.c (.sym 5))) eo49 hB rfl rfl,gp 51 [.c (.sym 6)] (.r (.row [.sym 7,.sym 8,.sym 9,.sym 10])) eo51 hE rfl rfl]
      [gbInt .lss 3 .i64 (.sym 4) (.lit (.int .i64 0)) _ _ false (sgn_nlt h0) rfl rfl,gbQ (.row [.sym 7,.sym 8,.sym 9,.sym 10]) (.row [.sym 0,.sym 1,.sym 2,.sym 3]) (fq false b) q true (by simp[hr])]
      [goExt 50 [.c (.sym 5)] (.c (.sym 6)) (fun w=>of_bits ((b:Nat):Int) w) rfl rfl]
      Tryz.func15 100 [.row [.sym 0,.sym 1,.sym 2,.sym 3]] (.tup [.c (.sym 6),.c (.lit (.bool true))]) (by kernel_rfl) rfl rfl
  · rw[if_neg h1]
    have hr:¬fq false b=q:=fun k=>h1 (hfq.1 k)
    by_cases h2:b=GW
    · rw[if_pos h2]
      exact ev_pure (hp:=true) (L:=rF q++[gx (.int .i64 q.num.sign),gx (.int .u64 b),gx (.float .f64 b)]++rF (fq false b)) tys_ok mixed
        [gp 52 [.row [.sym 0,.sym 1,.sym 2,.sym 3]] (.r (.c (.sym 4))) eo52 (fsign q) rfl rfl,gp 49 [.row [.sym 0,.sym 1,.sym 2,.sym 3]] (.r (.c (.sym 5))) eo49 hB rfl rfl,gp 51 [.c (.sym 6)] (.r (.row [.sym 7,.sym 8,.sym 9,.sym 10])) eo51 hE rfl rfl]
        [gbInt .lss 3 .i64 (.sym 4) (.lit (.int .i64 0)) _ _ false (sgn_nlt h0) rfl rfl,gbQ (.row [.sym 7,.sym 8,.sym 9,.sym 10]) (.row [.sym 0,.sym 1,.sym 2,.sym 3]) (fq false b) q false (by simp[hr]),gbInt .eql 41 .u64 (.sym 5) (.lit (.int .u64 9218868437227405311)) _ _ true (by rw[h2]; rfl) rfl rfl]
        [goExt 50 [.c (.sym 5)] (.c (.sym 6)) (fun w=>of_bits ((b:Nat):Int) w) rfl rfl]
        Tryz.func15 100 [.row [.sym 0,.sym 1,.sym 2,.sym 3]] (.tup [.c (.lit (.flt 0)),.c (.lit (.bool false))]) (by kernel_rfl) rfl rfl
    · rw[if_neg h2]
      have hw:IntKind.u64.wrap ((b:Int)+1)=((b+1:Nat):Int):=by unfold GW at hg; rw[IntKind.wrap_u64]; omega
      exact ev_pure (hp:=true) (L:=rF q++[gx (.int .i64 q.num.sign),gx (.int .u64 b),gx (.float .f64 b)]++rF (fq false b)++[gx (.int .u64 ((b+1:Nat):Int)),gx (.float .f64 (b+1))]) tys_ok mixed
        [gp 52 [.row [.sym 0,.sym 1,.sym 2,.sym 3]] (.r (.c (.sym 4))) eo52 (fsign q) rfl rfl,gp 49 [.row [.sym 0,.sym 1,.sym 2,.sym 3]] (.r (.c (.sym 5))) eo49 hB rfl rfl,gp 51 [.c (.sym 6)] (.r (.row [.sym 7,.sym 8,.sym 9,.sym 10])) eo51 hE rfl rfl]
        [gbInt .lss 3 .i64 (.sym 4) (.lit (.int .i64 0)) _ _ false (sgn_nlt h0) rfl rfl,gbQ (.row [.sym 7,.sym 8,.sym 9,.sym 10]) (.row [.sym 0,.sym 1,.sym 2,.sym 3]) (fq false b) q false (by simp[hr]),gbInt .eql 41 .u64 (.sym 5) (.lit (.int .u64 9218868437227405311)) _ _ false (congrArg some (beq_eq_false_iff_ne.2 (by unfold GW at h2; omega))) rfl rfl,gb .add 41 (.c (.sym 5)) (.c (.lit (.int .u64 1))) (.sym 11) (i_add _ _ _ _ _ hw) rfl rfl rfl]
        [goExt 50 [.c (.sym 5)] (.c (.sym 6)) (fun w=>of_bits ((b:Nat):Int) w) rfl rfl,
         goExt 50 [.c (.sym 11)] (.c (.sym 12)) (fun w=>of_bits ((b+1:Nat):Int) w) rfl rfl]
        Tryz.func15 100 [.row [.sym 0,.sym 1,.sym 2,.sym 3]] (.tup [.c (.sym 12),.c (.lit (.bool true))]) (by kernel_rfl) rfl rfl
theorem upQ_neg{q:Rat}(h:q<0):upQ q=some (pz true (bel (uq q))):=by unfold upQ; rw[if_pos h]
theorem dUp_neg(q:Rat)(h:ShortF q)(h0:q<0):PureC Tryz.prog 15 [encF q] (docV (upQ q)):=by
  have hD:=dDown_pos (-q) (shortF_neg h) (by grind)
  rw[downQ_pos (by grind),uq_opp] at hD
  have hs:=sub_pz (t:=false) (bel_GW q)
  rw[show pz false (bel (uq q))=bel (uq q) by unfold pz; split; (rename_i e; exact e.symm); rfl] at hs
  have he:(if bel (uq q)=0 then 0 else bel (uq q) ^^^ 9223372036854775808)=pz true (bel (uq q)):=by
    unfold pz
    split
    · rfl
    · exact sgw_xor (s:=false) (b:=bel (uq q)) (Nat.le_succ_of_le (bel_GW q))
  rw[he] at hs
  rw[upQ_neg h0]
  exact ev_pure (hp:=true) (L:=rF q++[gx (.int .i64 q.num.sign)]++rF (-q)++[gx (.float .f64 (bel (uq q))),gx (.float .f64 (pz true (bel (uq q))))]) tys_ok mixed
    [gp 52 [.row [.sym 0,.sym 1,.sym 2,.sym 3]] (.r (.c (.sym 4))) eo52 (fsign q) rfl rfl,gp 53 [.row [.sym 0,.sym 1,.sym 2,.sym 3]] (.r (.row [.sym 5,.sym 6,.sym 7,.sym 8])) eo53 (fneg q) rfl rfl,gp 16 [.row [.sym 5,.sym 6,.sym 7,.sym 8]] (.tup [.c (.sym 9),.c (.lit (.bool true))]) eo16 hD rfl rfl]
    [gbInt .lss 3 .i64 (.sym 4) (.lit (.int .i64 0)) _ _ true (sgn_lt h0) rfl rfl,gb .sub 28 (.c (.lit (.flt 0))) (.c (.sym 9)) (.sym 10) (fl_arith .sub _ 0 (bel (uq q)) _ hs) rfl rfl rfl] []
    Tryz.func15 100 [.row [.sym 0,.sym 1,.sym 2,.sym 3]] (.tup [.c (.sym 10),.c (.lit (.bool true))]) (by kernel_rfl) rfl rfl
theorem dDown_neg(q:Rat)(h:ShortF q)(h0:q<0):PureC Tryz.prog 16 [encF q] (docV (downQ q)):=by
  have hU:=dUp_pos (-q) (shortF_neg h) (by grind)
  have hf:∀ y,upQ (-q)=some y→y≤GW:=by
    intro y hy
    have hg:=bel_GW q
    unfold upQ at hy
    rw[if_neg (by grind),uq_opp] at hy
    split at hy
    · cases hy; exact hg
    · split at hy
      · cases hy
      · cases hy; omega
  rw[down_up]
  cases hu:upQ (-q) with
  | none =>
    rw[hu] at hU
    exact ev_pure (hp:=true) (L:=rF q++[gx (.int .i64 q.num.sign)]++rF (-q)) tys_ok mixed
      [gp 52 [.row [.sym 0,.sym 1,.sym 2,.sym 3]] (.r (.c (.sym 4))) eo52 (fsign q) rfl rfl,gp 53 [.row [.sym 0,.sym 1,.sym 2,.sym 3]] (.r (.row [.sym 5,.sym 6,.sym 7,.sym 8])) eo53 (fneg q) rfl rfl,gp 15 [.row [.sym 5,.sym 6,.sym 7,.sym 8]] (.tup [.c (.lit (.flt 0)),.c (.lit (.bool false))]) eo15 hU rfl rfl]
      [gbInt .geq 3 .i64 (.sym 4) (.lit (.int .i64 0)) _ _ false (sgn_nge h0) rfl rfl,gb .eql 28 (.c (.lit (.flt 0))) (.c (.lit (.flt 0))) (.lit (.bool true)) (fl_eql _ 0 0 true (ord_eq0 (s:=false) (b:=0) (by decide))) rfl rfl rfl] []
      Tryz.func16 100 [.row [.sym 0,.sym 1,.sym 2,.sym 3]] (.tup [.c (.lit (.flt 0)),.c (.lit (.bool false))]) (by kernel_rfl) rfl rfl
  | some y =>
    rw[hu] at hU
    have hs:=upQ_sub hu
    have hy:=ord_eq0 (s:=false) (hf y hu)
    rw[show sgw false y=y from rfl] at hy
    by_cases hz:y=0
    · simp only
      rw[if_pos hz]
      rw[show decide (y=0)=true by simp[hz]] at hy
      exact ev_pure (hp:=true) (L:=rF q++[gx (.int .i64 q.num.sign)]++rF (-q)++[gx (.float .f64 y)]) tys_ok mixed
        [gp 52 [.row [.sym 0,.sym 1,.sym 2,.sym 3]] (.r (.c (.sym 4))) eo52 (fsign q) rfl rfl,gp 53 [.row [.sym 0,.sym 1,.sym 2,.sym 3]] (.r (.row [.sym 5,.sym 6,.sym 7,.sym 8])) eo53 (fneg q) rfl rfl,gp 15 [.row [.sym 5,.sym 6,.sym 7,.sym 8]] (.tup [.c (.sym 9),.c (.lit (.bool true))]) eo15 hU rfl rfl]
        [gbInt .geq 3 .i64 (.sym 4) (.lit (.int .i64 0)) _ _ false (sgn_nge h0) rfl rfl,gb .eql 28 (.c (.sym 9)) (.c (.lit (.flt 0))) (.lit (.bool true)) (fl_eql _ y 0 true hy) rfl rfl rfl] []
        Tryz.func16 100 [.row [.sym 0,.sym 1,.sym 2,.sym 3]] (.tup [.c (.lit (.flt 0)),.c (.lit (.bool true))]) (by kernel_rfl) rfl rfl
    · simp only
      rw[if_neg hz]
      rw[if_neg hz] at hs
      rw[show decide (y=0)=false by simp[hz]] at hy
      exact ev_pure (hp:=true) (L:=rF q++[gx (.int .i64 q.num.sign)]++rF (-q)++[gx (.float .f64 y),gx (.float .f64 (y ^^^ 9223372036854775808))]) tys_ok mixed
        [gp 52 [.row [.sym 0,.sym 1,.sym 2,.sym 3]] (.r (.c (.sym 4))) eo52 (fsign q) rfl rfl,gp 53 [.row [.sym 0,.sym 1,.sym 2,.sym 3]] (.r (.row [.sym 5,.sym 6,.sym 7,.sym 8])) eo53 (fneg q) rfl rfl,gp 15 [.row [.sym 5,.sym 6,.sym 7,.sym 8]] (.tup [.c (.sym 9),.c (.lit (.bool true))]) eo15 hU rfl rfl]
        [gbInt .geq 3 .i64 (.sym 4) (.lit (.int .i64 0)) _ _ false (sgn_nge h0) rfl rfl,gb .eql 28 (.c (.sym 9)) (.c (.lit (.flt 0))) (.lit (.bool false)) (fl_eql _ y 0 false hy) rfl rfl rfl,gb .sub 28 (.c (.lit (.flt 0))) (.c (.sym 9)) (.sym 10) (fl_arith .sub _ 0 y _ hs) rfl rfl rfl] []
        Tryz.func16 100 [.row [.sym 0,.sym 1,.sym 2,.sym 3]] (.tup [.c (.sym 10),.c (.lit (.bool true))]) (by kernel_rfl) rfl rfl
theorem dUp(q:Rat)(h:ShortF q):PureC Tryz.prog 15 [encF q] (docV (upQ q)):=by
 by_cases h0:q<0
 ·exact dUp_neg q h h0
 ·exact dUp_pos q h h0
theorem dDown(q:Rat)(h:ShortF q):PureC Tryz.prog 16 [encF q] (docV (downQ q)):=by
 by_cases h0:q<0
 ·exact dDown_neg q h h0
 ·exact dDown_pos q h h0
end Go.Proofs.YthklnbaddobieaaGreat
