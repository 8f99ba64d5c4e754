/- Laws for the walk. -/
import Derived.Test.YthklnbaddobieaaGreatUbf
set_option linter.unusedVariables false
set_option maxHeartbeats 4000000
namespace Tr
open Ieee
def fr(r:Int):Rat:=fq (decide (r<0)) r.natAbs
theorem fr_rk(s:Bool)(b:Nat):fr (rkS s b)=fq s b:=by
 unfold fr rkS
 cases s
 ·rw[if_neg (by decide),Int.natAbs_natCast,show decide ((b:Int)<0)=false from decide_eq_false (by omega)]
 ·rw[if_pos rfl,Int.natAbs_neg,Int.natAbs_natCast]
  by_cases h:b=0
  ·subst h; rw[fq_zero]; exact(fq_zero _).symm
  ·rw[show decide (-(b:Int)<0)=true from decide_eq_true (by omega)]
def Stand(q:Rat)(d u:Nat):Prop:=∃ r:Int,r.natAbs≤GW∧d=rkW r∧((u=rkW r∧fr r=q)∨((r+1).natAbs≤GW∧u=rkW (r+1)∧fr r<q∧q<fr (r+1)))
theorem stand_pos{q:Rat}(h:¬q<0){d u:Nat}(hd:downQ q=some d)(hu:upQ q=some u):Stand q d u:=by
 have hg:=bel_GW q
 have hb:=bel_le q
 have hl:=bel_lt (q:=q)
 have h0:(0:Rat)≤q:=Rat.not_lt.1 h
 unfold downQ at hd
 unfold upQ at hu
 rw[if_neg h] at hd hu
 generalize bel (uq q)=B at *
 have hBd:d=B:=by injection hd with hd; exact hd.symm
 subst hBd
 generalize hBB:d=B at *
 clear hBB hd
 have f0:∀ b:Nat,fr (b:Int)=fq false b:=fun b=>fr_rk false b
 have w0:∀ b:Nat,rkW (b:Int)=b:=fun b=>by unfold rkW; rw[if_neg (by omega)]; omega
 refine⟨(B:Int),by omega,(w0 B).symm,?_⟩
 split at hu
 ·rename_i e
  have hu':B=u:=by injection hu
  refine .inl ⟨by rw[←hu',w0],?_⟩
  clear hu' hu
  rw[f0]
  have h1:=fq_units false B
  rw[if_neg (by decide),e,uq_pos h0] at h1
  have hne:=uu_ne
  have hp:=two_pos UU
  generalize ((2 ^ UU:Nat):Rat)=t at *
  by_cases c:fq false B<q
  ·have:=(lt_units hp).1 c; grind
  ·by_cases c2:q<fq false B
   ·have:=(lt_units hp).1 c2; grind
   ·exact Rat.le_antisymm (Rat.not_lt.1 c2) (Rat.not_lt.1 c)
 ·rename_i e
  split at hu
  ·cases hu
  ·rename_i e2
   have hu':B+1=u:=by injection hu
   refine .inr ⟨by omega,by rw[show(B:Int)+1=((B+1:Nat):Int) by omega,w0,hu'],?_,?_⟩
   ·rw[f0,fq_lt_pos h0]
    exact Rat.lt_of_le_of_ne hb e
   ·rw[show(B:Int)+1=((B+1:Nat):Int) by omega,f0,lt_units (two_pos UU),fq_units,if_neg (by decide),←uq_pos h0]
    exact hl (by omega)
theorem rk_neg(b:Nat):rkW (-(b:Int))=pz true b:=(rk_pz true b).symm
theorem fr_neg(b:Nat):fr (-(b:Int))=fq true b:=fr_rk true b
theorem upq_neg{q:Rat}(h:q<0):upQ q=some (pz true (bel (uq q))):=by unfold upQ; rw[if_pos h]
theorem downq_neg{q:Rat}(h:q<0):downQ q=(if((VV (bel (uq q)):Nat):Rat)=uq q then some (pz true (bel (uq q))) else if bel (uq q)=GW then none else some (pz true (bel (uq q)+1))):=by
 unfold downQ
 rw[if_pos h]
 unfold upQ
 rw[if_neg (by grind),uq_opp]
 by_cases e:((VV (bel (uq q)):Nat):Rat)=uq q
 ·rw[if_pos e,if_pos e]; rfl
 ·rw[if_neg e,if_neg e]
  by_cases e2:bel (uq q)=GW
  ·rw[if_pos e2,if_pos e2]
  ·rw[if_neg e2,if_neg e2]; rfl
theorem stand_neg{q:Rat}(h:q<0){d u:Nat}(hd:downQ q=some d)(hu:upQ q=some u):Stand q d u:=by
 have hg:=bel_GW q
 have hb:=bel_le q
 have hl:=bel_lt (q:=q)
 rw[upq_neg h] at hu
 rw[downq_neg h] at hd
 have hu':pz true (bel (uq q))=u:=by injection hu
 clear hu
 generalize bel (uq q)=B at *
 split at hd
 ·rename_i e
  have hd':pz true B=d:=by injection hd
  refine⟨-(B:Int),by omega,by rw[rk_neg,hd'],.inl ⟨by rw[rk_neg,hu'],?_⟩⟩
  rw[fr_neg]
  have h1:=fq_units true B
  rw[if_pos rfl,e,uq_neg h] at h1
  have hp:=two_pos UU
  generalize ((2 ^ UU:Nat):Rat)=t at *
  by_cases c:fq true B<q
  ·have:=(lt_units hp).1 c; grind
  ·by_cases c2:q<fq true B
   ·have:=(lt_units hp).1 c2; grind
   ·exact Rat.le_antisymm (Rat.not_lt.1 c2) (Rat.not_lt.1 c)
 ·rename_i e
  split at hd
  ·cases hd
  ·rename_i e2
   have hd':pz true (B+1)=d:=by injection hd
   have ec:-((B+1:Nat):Int)+1=-(B:Int):=by omega
   refine⟨-((B+1:Nat):Int),by omega,by rw[rk_neg,hd'],.inr ⟨by rw[ec]; omega,by rw[ec,rk_neg,hu'],?_,?_⟩⟩
   ·rw[fr_neg,fq_lt_neg h]; exact hl (by omega)
   ·rw[ec,fr_neg,lt_units (two_pos UU),fq_units,if_pos rfl]
    have h2:((VV B:Nat):Rat)<uq q:=Rat.lt_of_le_of_ne hb e
    rw[uq_neg h] at h2
    generalize ((2 ^ UU:Nat):Rat)=t at *
    grind
theorem stand{q:Rat}{d u:Nat}(hd:downQ q=some d)(hu:upQ q=some u):Stand q d u:=by
 by_cases h:q<0
 ·exact stand_neg h hd hu
 ·exact stand_pos h hd hu
end Tr
namespace Go.Proofs.YthklnbaddobieaaGreat
open Go.RowKit Tr
theorem at_of{q:Rat}{d u y:Nat}(hd:downQ q=some d)(hu:upQ q=some u)(hr:FltA q (some y)):y=d∨y=u:=by
 obtain⟨X,hX,e⟩:=hr
 by_cases hg:X≤GW
 ·rw[if_pos hg] at e
  have ey:y=pz (decide (q<0)) X:=by injection e
  have hc:=(near_cases hX (bel_spec (uq_nonneg q)) ((nearB_inf hX).1 (by unfold GW at hg; omega))).1
  by_cases h:q<0
  ·rw[show decide (q<0)=true from decide_eq_true h] at ey
   rw[upq_neg h] at hu
   rw[downq_neg h] at hd
   have hu':pz true (bel (uq q))=u:=by injection hu
   rcases hc with e1|⟨e1,e2,e3⟩
   ·right; rw[ey,e1,hu']
   ·left
    rw[if_neg (fun k=>absurd (k▸e2) Rat.lt_irrefl),if_neg (by omega)] at hd
    have hd':pz true (bel (uq q)+1)=d:=by injection hd
    rw[ey,e1,hd']
  ·rw[show decide (q<0)=false from decide_eq_false h,pz0] at ey
   unfold upQ at hu
   unfold downQ at hd
   rw[if_neg h] at hu hd
   have hd':bel (uq q)=d:=by injection hd
   rcases hc with e1|⟨e1,e2,e3⟩
   ·left; rw[ey,e1,hd']
   ·right
    rw[if_neg (fun k=>absurd (k▸e2) Rat.lt_irrefl),if_neg (by omega)] at hu
    have hu':bel (uq q)+1=u:=by injection hu
    rw[ey,e1,hu']
 ·rw[if_neg hg] at e; cases e
end Go.Proofs.YthklnbaddobieaaGreat
set_option linter.unusedSimpArgs false
namespace Go.Proofs.YthklnbaddobieaaGreat
open Go.RowKit Tr
def rwQ(q:Rat):RwF:=⟨decide (q.num<0),false,strN q.num.natAbs,strN q.den⟩
end Go.Proofs.YthklnbaddobieaaGreat
set_option linter.unusedSimpArgs false
namespace Go.Proofs.YthklnbaddobieaaGreat
open Go.RowKit Tr
theorem bk_fl(s:Bool){b:Nat}(hf:b≤GW):SpecC Tryz.prog true 10 [F1 (fq s b)] (.tup [.c (gx (.float .f64 (pz s b))),.c (gl (.int .i64 0))]):=nFloat_any (fq s b) (short_fq hf) (flt_fq hf)
theorem bk_up(s:Bool){b:Nat}(hf:b≤GW):SpecC Tryz.prog true 11 [F1 (fq s b)] (.tup [.c (gx (.float .f64 (pz s b))),.c (gl (.int .i64 0))]):=by
 have h:=nUp_ok (fq s b) (short_fq hf)
 rw[up_fq hf] at h; exact h
theorem bk_dn(s:Bool){b:Nat}(hf:b≤GW):SpecC Tryz.prog true 12 [F1 (fq s b)] (.tup [.c (gx (.float .f64 (pz s b))),.c (gl (.int .i64 0))]):=by
 have h:=nDown_ok (fq s b) (short_fq hf)
 rw[down_fq hf] at h; exact h
theorem bk_add(s:Bool){b:Nat}(hf:b≤GW):VOp .add (sgw s b) 0 (pz s b):=add_zero hf
theorem bk_neq(x:Int):cmpB .neq x x=some false:=by simp[cmpB]
theorem bk_long_F(s:Bool)(b:Nat)(hf:b≤GW)(f:RwF)(hl:(200:Int)<(f.s1.size:Int)∨(200:Int)<(f.s2.size:Int)):SpecC Tryz.prog true 5 [.c (gx (.float .f64 (sgw s b))),.row (f.cells)] (B1 true) :=
  ev_sp (L:=(gx (.float .f64 (sgw s b)) :: f.cells++rF (fq s b)++[gx (.float .f64 (pz s b)),gx (.int .u64 (pz s b:Nat))])) tys_ok mixed
    [gs (nExact_ok (s:=s) (b:=b) hf) [.c (.sym 0)] (.tup [.row [.sym 5,.sym 6,.sym 7,.sym 8],.c (.lit (.int .i64 0))]),gs (bk_fl s hf) [.row [.sym 5,.sym 6,.sym 7,.sym 8]] (.tup [.c (.sym 9),.c (.lit (.int .i64 0))]),gs (bk_up s hf) [.row [.sym 5,.sym 6,.sym 7,.sym 8]] (.tup [.c (.sym 9),.c (.lit (.int .i64 0))]),gs (bk_dn s hf) [.row [.sym 5,.sym 6,.sym 7,.sym 8]] (.tup [.c (.sym 9),.c (.lit (.int .i64 0))]),gs (lLong f 200 true ⟨fun _=>hl,fun _=>rfl⟩) [.c (.lit (.int .i64 200)),.row [.sym 1,.sym 2,.sym 3,.sym 4]] (.r (.c (.lit (.bool true)))),gs lKnown [] (.r (.c (.lit (.bool true))))]
    [gb .add 28 (.c (.sym 0)) (.c (.lit (.flt 0))) (.sym 9) (fl_arith .add _ _ _ _ (bk_add s hf)) (by kernel_rfl) (by kernel_rfl) (by kernel_rfl),gbInt .neq 41 .u64 (.sym 10) (.sym 10) (pz s b:Nat) (pz s b:Nat) false (bk_neq _) (by kernel_rfl) (by kernel_rfl)] [goExt 20 [.c (.sym 9)] (.c (.sym 10)) (fun w=>bits_of (pz s b) w) (by kernel_rfl) (by kernel_rfl)]
    Tryz.func5 eo5 2000 [.c (.sym 0),.row [.sym 1,.sym 2,.sym 3,.sym 4]] (.r (.c (.lit (.bool true))))
theorem bk_bad_F(s:Bool)(b:Nat)(hf:b≤GW)(f:RwF)(hl:¬((200:Int)<(f.s1.size:Int)∨(200:Int)<(f.s2.size:Int)))(hx:¬FracOk f.val):SpecC Tryz.prog true 5 [.c (gx (.float .f64 (sgw s b))),.row (f.cells)] (B1 true) :=
  ev_sp (L:=(gx (.float .f64 (sgw s b)) :: f.cells++rF (fq s b)++[gx (.float .f64 (pz s b)),gx (.int .u64 (pz s b:Nat))])) tys_ok mixed
    [gs (nExact_ok (s:=s) (b:=b) hf) [.c (.sym 0)] (.tup [.row [.sym 5,.sym 6,.sym 7,.sym 8],.c (.lit (.int .i64 0))]),gs (bk_fl s hf) [.row [.sym 5,.sym 6,.sym 7,.sym 8]] (.tup [.c (.sym 9),.c (.lit (.int .i64 0))]),gs (bk_up s hf) [.row [.sym 5,.sym 6,.sym 7,.sym 8]] (.tup [.c (.sym 9),.c (.lit (.int .i64 0))]),gs (bk_dn s hf) [.row [.sym 5,.sym 6,.sym 7,.sym 8]] (.tup [.c (.sym 9),.c (.lit (.int .i64 0))]),gs (lLong f 200 false ⟨fun e=>(by cases e),fun k=>absurd k hl⟩) [.c (.lit (.int .i64 200)),.row [.sym 1,.sym 2,.sym 3,.sym 4]] (.r (.c (.lit (.bool false)))),gs (aFMayN f hx) [.row [.sym 1,.sym 2,.sym 3,.sym 4]] (.r (.c (.lit (.bool false)))),gs lKnown [] (.r (.c (.lit (.bool true))))]
    [gb .add 28 (.c (.sym 0)) (.c (.lit (.flt 0))) (.sym 9) (fl_arith .add _ _ _ _ (bk_add s hf)) (by kernel_rfl) (by kernel_rfl) (by kernel_rfl),gbInt .neq 41 .u64 (.sym 10) (.sym 10) (pz s b:Nat) (pz s b:Nat) false (bk_neq _) (by kernel_rfl) (by kernel_rfl)] [goExt 20 [.c (.sym 9)] (.c (.sym 10)) (fun w=>bits_of (pz s b) w) (by kernel_rfl) (by kernel_rfl)]
    Tryz.func5 eo5 2000 [.c (.sym 0),.row [.sym 1,.sym 2,.sym 3,.sym 4]] (.r (.c (.lit (.bool true))))
theorem bk_c1_F(s:Bool)(b:Nat)(hf:b≤GW)(q:Rat)(h:ShortF q)(hl:¬((200:Int)<((rwQ q).s1.size:Int)∨(200:Int)<((rwQ q).s2.size:Int)))(u d y:Nat)(e1 e2:Int)(pu:SpecC Tryz.prog true 11 [F1 q] (.tup [.c (gx (.float .f64 u)),.c (gl (.int .i64 6))]))(pd:SpecC Tryz.prog true 12 [F1 q] (.tup [.c (gx (.float .f64 d)),.c (gx (.int .i64 e1))]))(pa:SpecC Tryz.prog true 10 [F1 q] (.tup [.c (gx (.float .f64 y)),.c (gx (.int .i64 e2))])):SpecC Tryz.prog true 5 [.c (gx (.float .f64 (sgw s b))),.row (rF q)] (B1 true) :=
  ev_sp (L:=(gx (.float .f64 (sgw s b)) :: rF q++rF (fq s b)++[gx (.float .f64 (pz s b)),gx (.int .u64 (pz s b:Nat))]++[gx (.float .f64 u),gx (.float .f64 d),gx (.float .f64 y),gx (.int .i64 e1),gx (.int .i64 e2)])) tys_ok mixed
    [gs (nExact_ok (s:=s) (b:=b) hf) [.c (.sym 0)] (.tup [.row [.sym 5,.sym 6,.sym 7,.sym 8],.c (.lit (.int .i64 0))]),gs (bk_fl s hf) [.row [.sym 5,.sym 6,.sym 7,.sym 8]] (.tup [.c (.sym 9),.c (.lit (.int .i64 0))]),gs (bk_up s hf) [.row [.sym 5,.sym 6,.sym 7,.sym 8]] (.tup [.c (.sym 9),.c (.lit (.int .i64 0))]),gs (bk_dn s hf) [.row [.sym 5,.sym 6,.sym 7,.sym 8]] (.tup [.c (.sym 9),.c (.lit (.int .i64 0))]),gs (lLong (rwQ q) 200 false ⟨fun e=>(by cases e),fun k=>absurd k hl⟩) [.c (.lit (.int .i64 200)),.row [.sym 1,.sym 2,.sym 3,.sym 4]] (.r (.c (.lit (.bool false)))),gs (aFMayQ q h) [.row [.sym 1,.sym 2,.sym 3,.sym 4]] (.r (.c (.lit (.bool true)))),gs pu [.row [.sym 1,.sym 2,.sym 3,.sym 4]] (.tup [.c (.sym 11),.c (.lit (.int .i64 6))]),gs pd [.row [.sym 1,.sym 2,.sym 3,.sym 4]] (.tup [.c (.sym 12),.c (.sym 14)]),gs pa [.row [.sym 1,.sym 2,.sym 3,.sym 4]] (.tup [.c (.sym 13),.c (.sym 15)]),gs lKnown [] (.r (.c (.lit (.bool true))))]
    [gb .add 28 (.c (.sym 0)) (.c (.lit (.flt 0))) (.sym 9) (fl_arith .add _ _ _ _ (bk_add s hf)) (by kernel_rfl) (by kernel_rfl) (by kernel_rfl),gbInt .neq 41 .u64 (.sym 10) (.sym 10) (pz s b:Nat) (pz s b:Nat) false (bk_neq _) (by kernel_rfl) (by kernel_rfl)] [goExt 20 [.c (.sym 9)] (.c (.sym 10)) (fun w=>bits_of (pz s b) w) (by kernel_rfl) (by kernel_rfl)]
    Tryz.func5 eo5 2000 [.c (.sym 0),.row [.sym 1,.sym 2,.sym 3,.sym 4]] (.r (.c (.lit (.bool true))))
theorem bk_c2_F(s:Bool)(b:Nat)(hf:b≤GW)(q:Rat)(h:ShortF q)(hl:¬((200:Int)<((rwQ q).s1.size:Int)∨(200:Int)<((rwQ q).s2.size:Int)))(u d y:Nat)(e2:Int)(pu:SpecC Tryz.prog true 11 [F1 q] (.tup [.c (gx (.float .f64 u)),.c (gl (.int .i64 0))]))(pd:SpecC Tryz.prog true 12 [F1 q] (.tup [.c (gx (.float .f64 d)),.c (gl (.int .i64 6))]))(pa:SpecC Tryz.prog true 10 [F1 q] (.tup [.c (gx (.float .f64 y)),.c (gx (.int .i64 e2))])):SpecC Tryz.prog true 5 [.c (gx (.float .f64 (sgw s b))),.row (rF q)] (B1 true) :=
  ev_sp (L:=(gx (.float .f64 (sgw s b)) :: rF q++rF (fq s b)++[gx (.float .f64 (pz s b)),gx (.int .u64 (pz s b:Nat))]++[gx (.float .f64 u),gx (.float .f64 d),gx (.float .f64 y),gx (.int .i64 e2)])) tys_ok mixed
    [gs (nExact_ok (s:=s) (b:=b) hf) [.c (.sym 0)] (.tup [.row [.sym 5,.sym 6,.sym 7,.sym 8],.c (.lit (.int .i64 0))]),gs (bk_fl s hf) [.row [.sym 5,.sym 6,.sym 7,.sym 8]] (.tup [.c (.sym 9),.c (.lit (.int .i64 0))]),gs (bk_up s hf) [.row [.sym 5,.sym 6,.sym 7,.sym 8]] (.tup [.c (.sym 9),.c (.lit (.int .i64 0))]),gs (bk_dn s hf) [.row [.sym 5,.sym 6,.sym 7,.sym 8]] (.tup [.c (.sym 9),.c (.lit (.int .i64 0))]),gs (lLong (rwQ q) 200 false ⟨fun e=>(by cases e),fun k=>absurd k hl⟩) [.c (.lit (.int .i64 200)),.row [.sym 1,.sym 2,.sym 3,.sym 4]] (.r (.c (.lit (.bool false)))),gs (aFMayQ q h) [.row [.sym 1,.sym 2,.sym 3,.sym 4]] (.r (.c (.lit (.bool true)))),gs pu [.row [.sym 1,.sym 2,.sym 3,.sym 4]] (.tup [.c (.sym 11),.c (.lit (.int .i64 0))]),gs pd [.row [.sym 1,.sym 2,.sym 3,.sym 4]] (.tup [.c (.sym 12),.c (.lit (.int .i64 6))]),gs pa [.row [.sym 1,.sym 2,.sym 3,.sym 4]] (.tup [.c (.sym 13),.c (.sym 14)]),gs lKnown [] (.r (.c (.lit (.bool true))))]
    [gb .add 28 (.c (.sym 0)) (.c (.lit (.flt 0))) (.sym 9) (fl_arith .add _ _ _ _ (bk_add s hf)) (by kernel_rfl) (by kernel_rfl) (by kernel_rfl),gbInt .neq 41 .u64 (.sym 10) (.sym 10) (pz s b:Nat) (pz s b:Nat) false (bk_neq _) (by kernel_rfl) (by kernel_rfl)] [goExt 20 [.c (.sym 9)] (.c (.sym 10)) (fun w=>bits_of (pz s b) w) (by kernel_rfl) (by kernel_rfl)]
    Tryz.func5 eo5 2000 [.c (.sym 0),.row [.sym 1,.sym 2,.sym 3,.sym 4]] (.r (.c (.lit (.bool true))))
theorem bk_c3_F(s:Bool)(b:Nat)(hf:b≤GW)(q:Rat)(h:ShortF q)(hl:¬((200:Int)<((rwQ q).s1.size:Int)∨(200:Int)<((rwQ q).s2.size:Int)))(u d y:Nat)(pu:SpecC Tryz.prog true 11 [F1 q] (.tup [.c (gx (.float .f64 u)),.c (gl (.int .i64 0))]))(pd:SpecC Tryz.prog true 12 [F1 q] (.tup [.c (gx (.float .f64 d)),.c (gl (.int .i64 0))]))(pa:SpecC Tryz.prog true 10 [F1 q] (.tup [.c (gx (.float .f64 y)),.c (gl (.int .i64 6))])):SpecC Tryz.prog true 5 [.c (gx (.float .f64 (sgw s b))),.row (rF q)] (B1 true) :=
  ev_sp (L:=(gx (.float .f64 (sgw s b)) :: rF q++rF (fq s b)++[gx (.float .f64 (pz s b)),gx (.int .u64 (pz s b:Nat))]++[gx (.float .f64 u),gx (.float .f64 d),gx (.float .f64 y)])) tys_ok mixed
    [gs (nExact_ok (s:=s) (b:=b) hf) [.c (.sym 0)] (.tup [.row [.sym 5,.sym 6,.sym 7,.sym 8],.c (.lit (.int .i64 0))]),gs (bk_fl s hf) [.row [.sym 5,.sym 6,.sym 7,.sym 8]] (.tup [.c (.sym 9),.c (.lit (.int .i64 0))]),gs (bk_up s hf) [.row [.sym 5,.sym 6,.sym 7,.sym 8]] (.tup [.c (.sym 9),.c (.lit (.int .i64 0))]),gs (bk_dn s hf) [.row [.sym 5,.sym 6,.sym 7,.sym 8]] (.tup [.c (.sym 9),.c (.lit (.int .i64 0))]),gs (lLong (rwQ q) 200 false ⟨fun e=>(by cases e),fun k=>absurd k hl⟩) [.c (.lit (.int .i64 200)),.row [.sym 1,.sym 2,.sym 3,.sym 4]] (.r (.c (.lit (.bool false)))),gs (aFMayQ q h) [.row [.sym 1,.sym 2,.sym 3,.sym 4]] (.r (.c (.lit (.bool true)))),gs pu [.row [.sym 1,.sym 2,.sym 3,.sym 4]] (.tup [.c (.sym 11),.c (.lit (.int .i64 0))]),gs pd [.row [.sym 1,.sym 2,.sym 3,.sym 4]] (.tup [.c (.sym 12),.c (.lit (.int .i64 0))]),gs pa [.row [.sym 1,.sym 2,.sym 3,.sym 4]] (.tup [.c (.sym 13),.c (.lit (.int .i64 6))]),gs lKnown [] (.r (.c (.lit (.bool true))))]
    [gb .add 28 (.c (.sym 0)) (.c (.lit (.flt 0))) (.sym 9) (fl_arith .add _ _ _ _ (bk_add s hf)) (by kernel_rfl) (by kernel_rfl) (by kernel_rfl),gbInt .neq 41 .u64 (.sym 10) (.sym 10) (pz s b:Nat) (pz s b:Nat) false (bk_neq _) (by kernel_rfl) (by kernel_rfl)] [goExt 20 [.c (.sym 9)] (.c (.sym 10)) (fun w=>bits_of (pz s b) w) (by kernel_rfl) (by kernel_rfl)]
    Tryz.func5 eo5 2000 [.c (.sym 0),.row [.sym 1,.sym 2,.sym 3,.sym 4]] (.r (.c (.lit (.bool true))))
theorem bk_long_N(s:Bool)(b:Nat)(hb:b<9223372036854775808)(hf:¬b≤GW)(f:RwF)(hl:(200:Int)<(f.s1.size:Int)∨(200:Int)<(f.s2.size:Int)):SpecC Tryz.prog true 5 [.c (gx (.float .f64 (sgw s b))),.row (f.cells)] (B1 true) :=
  ev_sp (L:=(gx (.float .f64 (sgw s b)) :: f.cells)) tys_ok mixed
    [gs (nExact_bad (s:=s) (b:=b) hb hf) [.c (.sym 0)] (.tup [.row [.lit (.bool false),.lit .str0,.lit (.bool false),.lit .str0],.c (.lit (.int .i64 6))]),gs (lLong f 200 true ⟨fun _=>hl,fun _=>rfl⟩) [.c (.lit (.int .i64 200)),.row [.sym 1,.sym 2,.sym 3,.sym 4]] (.r (.c (.lit (.bool true)))),gs lKnown [] (.r (.c (.lit (.bool true))))]
    [] []
    Tryz.func5 eo5 2000 [.c (.sym 0),.row [.sym 1,.sym 2,.sym 3,.sym 4]] (.r (.c (.lit (.bool true))))
theorem bk_bad_N(s:Bool)(b:Nat)(hb:b<9223372036854775808)(hf:¬b≤GW)(f:RwF)(hl:¬((200:Int)<(f.s1.size:Int)∨(200:Int)<(f.s2.size:Int)))(hx:¬FracOk f.val):SpecC Tryz.prog true 5 [.c (gx (.float .f64 (sgw s b))),.row (f.cells)] (B1 true) :=
  ev_sp (L:=(gx (.float .f64 (sgw s b)) :: f.cells)) tys_ok mixed
    [gs (nExact_bad (s:=s) (b:=b) hb hf) [.c (.sym 0)] (.tup [.row [.lit (.bool false),.lit .str0,.lit (.bool false),.lit .str0],.c (.lit (.int .i64 6))]),gs (lLong f 200 false ⟨fun e=>(by cases e),fun k=>absurd k hl⟩) [.c (.lit (.int .i64 200)),.row [.sym 1,.sym 2,.sym 3,.sym 4]] (.r (.c (.lit (.bool false)))),gs (aFMayN f hx) [.row [.sym 1,.sym 2,.sym 3,.sym 4]] (.r (.c (.lit (.bool false)))),gs lKnown [] (.r (.c (.lit (.bool true))))]
    [] []
    Tryz.func5 eo5 2000 [.c (.sym 0),.row [.sym 1,.sym 2,.sym 3,.sym 4]] (.r (.c (.lit (.bool true))))
theorem bk_c1_N(s:Bool)(b:Nat)(hb:b<9223372036854775808)(hf:¬b≤GW)(q:Rat)(h:ShortF q)(hl:¬((200:Int)<((rwQ q).s1.size:Int)∨(200:Int)<((rwQ q).s2.size:Int)))(u d y:Nat)(e1 e2:Int)(pu:SpecC Tryz.prog true 11 [F1 q] (.tup [.c (gx (.float .f64 u)),.c (gl (.int .i64 6))]))(pd:SpecC Tryz.prog true 12 [F1 q] (.tup [.c (gx (.float .f64 d)),.c (gx (.int .i64 e1))]))(pa:SpecC Tryz.prog true 10 [F1 q] (.tup [.c (gx (.float .f64 y)),.c (gx (.int .i64 e2))])):SpecC Tryz.prog true 5 [.c (gx (.float .f64 (sgw s b))),.row (rF q)] (B1 true) :=
  ev_sp (L:=(gx (.float .f64 (sgw s b)) :: rF q++[gx (.float .f64 u),gx (.float .f64 d),gx (.float .f64 y),gx (.int .i64 e1),gx (.int .i64 e2)])) tys_ok mixed
    [gs (nExact_bad (s:=s) (b:=b) hb hf) [.c (.sym 0)] (.tup [.row [.lit (.bool false),.lit .str0,.lit (.bool false),.lit .str0],.c (.lit (.int .i64 6))]),gs (lLong (rwQ q) 200 false ⟨fun e=>(by cases e),fun k=>absurd k hl⟩) [.c (.lit (.int .i64 200)),.row [.sym 1,.sym 2,.sym 3,.sym 4]] (.r (.c (.lit (.bool false)))),gs (aFMayQ q h) [.row [.sym 1,.sym 2,.sym 3,.sym 4]] (.r (.c (.lit (.bool true)))),gs pu [.row [.sym 1,.sym 2,.sym 3,.sym 4]] (.tup [.c (.sym 5),.c (.lit (.int .i64 6))]),gs pd [.row [.sym 1,.sym 2,.sym 3,.sym 4]] (.tup [.c (.sym 6),.c (.sym 8)]),gs pa [.row [.sym 1,.sym 2,.sym 3,.sym 4]] (.tup [.c (.sym 7),.c (.sym 9)]),gs lKnown [] (.r (.c (.lit (.bool true))))]
    [] []
    Tryz.func5 eo5 2000 [.c (.sym 0),.row [.sym 1,.sym 2,.sym 3,.sym 4]] (.r (.c (.lit (.bool true))))
theorem bk_c2_N(s:Bool)(b:Nat)(hb:b<9223372036854775808)(hf:¬b≤GW)(q:Rat)(h:ShortF q)(hl:¬((200:Int)<((rwQ q).s1.size:Int)∨(200:Int)<((rwQ q).s2.size:Int)))(u d y:Nat)(e2:Int)(pu:SpecC Tryz.prog true 11 [F1 q] (.tup [.c (gx (.float .f64 u)),.c (gl (.int .i64 0))]))(pd:SpecC Tryz.prog true 12 [F1 q] (.tup [.c (gx (.float .f64 d)),.c (gl (.int .i64 6))]))(pa:SpecC Tryz.prog true 10 [F1 q] (.tup [.c (gx (.float .f64 y)),.c (gx (.int .i64 e2))])):SpecC Tryz.prog true 5 [.c (gx (.float .f64 (sgw s b))),.row (rF q)] (B1 true) :=
  ev_sp (L:=(gx (.float .f64 (sgw s b)) :: rF q++[gx (.float .f64 u),gx (.float .f64 d),gx (.float .f64 y),gx (.int .i64 e2)])) tys_ok mixed
    [gs (nExact_bad (s:=s) (b:=b) hb hf) [.c (.sym 0)] (.tup [.row [.lit (.bool false),.lit .str0,.lit (.bool false),.lit .str0],.c (.lit (.int .i64 6))]),gs (lLong (rwQ q) 200 false ⟨fun e=>(by cases e),fun k=>absurd k hl⟩) [.c (.lit (.int .i64 200)),.row [.sym 1,.sym 2,.sym 3,.sym 4]] (.r (.c (.lit (.bool false)))),gs (aFMayQ q h) [.row [.sym 1,.sym 2,.sym 3,.sym 4]] (.r (.c (.lit (.bool true)))),gs pu [.row [.sym 1,.sym 2,.sym 3,.sym 4]] (.tup [.c (.sym 5),.c (.lit (.int .i64 0))]),gs pd [.row [.sym 1,.sym 2,.sym 3,.sym 4]] (.tup [.c (.sym 6),.c (.lit (.int .i64 6))]),gs pa [.row [.sym 1,.sym 2,.sym 3,.sym 4]] (.tup [.c (.sym 7),.c (.sym 8)]),gs lKnown [] (.r (.c (.lit (.bool true))))]
    [] []
    Tryz.func5 eo5 2000 [.c (.sym 0),.row [.sym 1,.sym 2,.sym 3,.sym 4]] (.r (.c (.lit (.bool true))))
theorem bk_c3_N(s:Bool)(b:Nat)(hb:b<9223372036854775808)(hf:¬b≤GW)(q:Rat)(h:ShortF q)(hl:¬((200:Int)<((rwQ q).s1.size:Int)∨(200:Int)<((rwQ q).s2.size:Int)))(u d y:Nat)(pu:SpecC Tryz.prog true 11 [F1 q] (.tup [.c (gx (.float .f64 u)),.c (gl (.int .i64 0))]))(pd:SpecC Tryz.prog true 12 [F1 q] (.tup [.c (gx (.float .f64 d)),.c (gl (.int .i64 0))]))(pa:SpecC Tryz.prog true 10 [F1 q] (.tup [.c (gx (.float .f64 y)),.c (gl (.int .i64 6))])):SpecC Tryz.prog true 5 [.c (gx (.float .f64 (sgw s b))),.row (rF q)] (B1 true) :=
  ev_sp (L:=(gx (.float .f64 (sgw s b)) :: rF q++[gx (.float .f64 u),gx (.float .f64 d),gx (.float .f64 y)])) tys_ok mixed
    [gs (nExact_bad (s:=s) (b:=b) hb hf) [.c (.sym 0)] (.tup [.row [.lit (.bool false),.lit .str0,.lit (.bool false),.lit .str0],.c (.lit (.int .i64 6))]),gs (lLong (rwQ q) 200 false ⟨fun e=>(by cases e),fun k=>absurd k hl⟩) [.c (.lit (.int .i64 200)),.row [.sym 1,.sym 2,.sym 3,.sym 4]] (.r (.c (.lit (.bool false)))),gs (aFMayQ q h) [.row [.sym 1,.sym 2,.sym 3,.sym 4]] (.r (.c (.lit (.bool true)))),gs pu [.row [.sym 1,.sym 2,.sym 3,.sym 4]] (.tup [.c (.sym 5),.c (.lit (.int .i64 0))]),gs pd [.row [.sym 1,.sym 2,.sym 3,.sym 4]] (.tup [.c (.sym 6),.c (.lit (.int .i64 0))]),gs pa [.row [.sym 1,.sym 2,.sym 3,.sym 4]] (.tup [.c (.sym 7),.c (.lit (.int .i64 6))]),gs lKnown [] (.r (.c (.lit (.bool true))))]
    [] []
    Tryz.func5 eo5 2000 [.c (.sym 0),.row [.sym 1,.sym 2,.sym 3,.sym 4]] (.r (.c (.lit (.bool true))))
end Go.Proofs.YthklnbaddobieaaGreat
namespace Tr
open Go Go.RowKit Go.Shelf
theorem ev_same(a:Act)(i:Nat)(v:Value)(h:i<a.tmps.size):(a.put (some i) v).eval (.tmp i)=v:=by
 show(a.tmps.setIfInBounds i v).getD i undef=v
 simp[Array.getD,h]
theorem ev_other(a:Act)(i j:Nat)(v:Value)(h:i≠j):(a.put (some i) v).eval (.tmp j)=a.eval (.tmp j):=by
 show(a.tmps.setIfInBounds i v).getD j undef=a.tmps.getD j undef
 simp[Array.getD_eq_getD_getElem?,Array.getElem?_setIfInBounds,h]
theorem sz_put(a:Act)(i:Nat)(v:Value):(a.put (some i) v).tmps.size=a.tmps.size:=by show(a.tmps.setIfInBounds i v).size=_; simp
theorem wpListIn_val{F:Fence}{n:Nat}{P:Program}{ops:Array Oper}{rest:List Oper}{o:Oper}{a:Act}{w w':World}{Q:Exit→Act→World→Prop}(hgd:o.guard=none)(hc:∀ c,o.op≠.defer c)(hab:o.about P w a.eval=none)
  (v:Value) (he:(execOp a.eval o).run P w=.ok (.value v) w') (h:wpListIn F n P ops Q rest (a.put o.dst v) w'):wpListIn F n P ops Q (o :: rest) a w :=
 wpListIn_plain hgd fun K hK=>by
  refine⟨fun f hf=>(by rw[hab] at hf; cases hf),?_⟩
  rw[Oper.semAt_plain F _ _ hc,he]
  exact hK _ _ h
theorem wpListIn_skp{F:Fence}{n:Nat}{P:Program}{ops:Array Oper}{rest:List Oper}{o:Oper}{a:Act}{w w':World}{Q:Exit→Act→World→Prop}(hgd:o.guard=none)(hc:∀ c,o.op≠.defer c)(hab:o.about P w a.eval=none)
  (he:(execOp a.eval o).run P w=.ok .skip w') (h:wpListIn F n P ops Q rest (a.put o.dst undef) w'):wpListIn F n P ops Q (o :: rest) a w :=
 wpListIn_plain hgd fun K hK=>by
  refine⟨fun f hf=>(by rw[hab] at hf; cases hf),?_⟩
  rw[Oper.semAt_plain F _ _ hc,he]
  exact hK _ _ h
theorem i_addQ{P:Program}(t:TypeId)(x y:Int)(xo yo:Operand)(w:World):(do eqGuard .add t xo yo (.int .i64 x) (.int .i64 y); binOp .add t (.int .i64 x) (.int .i64 y):Sem Value).run P w=.ok (.int .i64 (IntKind.i64.wrap (x+y))) w:=by
 have h:eqGuard .add t xo yo (.int .i64 x) (.int .i64 y)=pure ():=rfl
 rw[h]; simp[go_sem]
structure CountB(t:TypeId)(o1 o2 o3 o4 o5:Oper):Prop where
 g1:o1.guard=none
 g2:o2.guard=none
 g3:o3.guard=none
 g4:o4.guard=none
 g5:o5.guard=none
 d1:o1.dst=some 152
 d2:o2.dst=some 153
 d3:o3.dst=none
 d4:o4.dst=some 154
 d5:o5.dst=some 155
 p1:o1.op=.load t (.tmp 28)
 p2:o2.op=.binOp .add t (.tmp 152) (.const (.int .i64 1)) t
 p3:o3.op=.store t (.tmp 28) (.tmp 153)
 p4:o4.op=.load t (.tmp 28)
 p5:o5.op=.binOp .gtr t (.tmp 154) (.const (.int .i64 2)) t
theorem count_body{F:Fence}{m:Nat}{P:Program}{t:TypeId}(ht:P.underlying t=some (.int .i64))(hi1:(P.info? t).map (·.size)=some 1){o1 o2 o3 o4 o5:Oper}(B:CountB t o1 o2 o3 o4 o5){r1 r2 b:Nat}{x:Code}{Q:Exit→Act→World→Prop}{a:Act}{W:World}{n:Nat}{v:Int}
  (hs:156≤a.tmps.size) (h28:a.eval (.tmp 28)=.pointer (some ⟨n,0,none⟩)) (hn:W.heap[n]?=some (.cells #[.int .i64 v] t (0,0))) (h0:0≤v) (h1:v≤1)
  (hQ:∀ a',Q .normal a' (W.setRow n #[.int .i64 (v+1)])) :
  (Code.block b (.seq (.region r1 #[o1,o2,o3] false) (.seq (.region r2 #[o4,o5] false) (.cond (.tmp 155) x .skip)))).wpIn F m P Q a W:=by
 have c1:W.cell? ⟨n,0,none⟩=some (.int .i64 v):=by unfold World.cell?; simp only[hn]; rfl
 have f1:W.frozen? ⟨n,0,none⟩=false:=by unfold World.frozen?; simp only[hn]; rfl
 obtain⟨W2,hW2⟩:∃ W2:World,W2=W.setRow n #[.int .i64 (v+1)]:=⟨_,rfl⟩
 have hn2:W2.heap[n]?=some (.cells #[.int .i64 (v+1)] t (0,0)):=by rw[hW2]; exact setRow_heap _ _ _ _ _ _ hn
 have c2:W2.cell? ⟨n,0,none⟩=some (.int .i64 (v+1)):=by unfold World.cell?; simp only[hn2]; rfl
 have hw:IntKind.i64.wrap (v+1)=v+1:=by rw[IntKind.wrap_i64]; omega
 refine wpIn_block (wpIn_seq ?_)
 refine wpIn_region_list ?_
 refine wpListIn_val B.g1 (fun c=>by rw[B.p1]; exact nofun) (by simp[Oper.about,B.p1]) (.int .i64 v) (w':=W) ?_ ?_
 ·unfold execOp
  simp only[B.p1,h28,Instr.loadAt,Instr.sureAddr,Sem.run_bind,Sem.run_pure,Result.andThen_ok,Go.Proofs.YthklnbaddobieaaGreat.load_one ht rfl c1]
 refine wpListIn_val B.g2 (fun c=>by rw[B.p2]; exact nofun) (by simp[Oper.about,B.p2]) (.int .i64 (v+1)) (w':=W) ?_ ?_
 ·rw[B.d1]
  unfold execOp
  simp only[B.p2,ev_same _ 152 _ (show 152<a.tmps.size by omega)]
  rw[show(a.put (some 152) (Value.int IntKind.i64 v)).eval (.const (.int .i64 1))=.int .i64 1 from rfl,Sem.run_bind,i_addQ]
  simp only[Result.andThen_ok,Sem.run_pure,hw]
 have hst:(storeVar t ⟨n,0,none⟩ (.int .i64 (v+1))).run P W=.ok () W2:=by
  rw[hW2]
  exact run_storeVar_one W n t t (.int .i64 v) (.int .i64 (v+1)) hn hi1 rfl
 refine wpListIn_skp B.g3 (fun c=>by rw[B.p3]; exact nofun) (by simp[Oper.about,B.p3]) (w':=W2) ?_ ?_
 ·rw[B.d1,B.d2]
  unfold execOp
  simp only[B.p3,ev_same _ 153 _ (show 153<(a.put (some 152) (.int .i64 v)).tmps.size by rw[sz_put]; omega),ev_other _ 153 28 _ (by decide),ev_other _ 152 28 _ (by decide),h28,Instr.storeAt,Instr.sureAddr,Sem.run_bind,Sem.run_pure,Result.andThen_ok,hst]
 rw[B.d1,B.d2,B.d3]
 refine wpListIn_nil ?_
 generalize hA:(((a.put (some 152) (.int .i64 v)).put (some 153) (.int .i64 (v+1))).put none undef)=A
 have hA28:A.eval (.tmp 28)=.pointer (some ⟨n,0,none⟩):=by rw[←hA]; show((a.put (some 152) (.int .i64 v)).put (some 153) (.int .i64 (v+1))).eval (.tmp 28)=_; rw[ev_other _ 153 28 _ (by decide),ev_other _ 152 28 _ (by decide),h28]
 have hAs:156≤A.tmps.size:=by rw[←hA]; show 156≤((a.put (some 152) (.int .i64 v)).put (some 153) (.int .i64 (v+1))).tmps.size; rw[sz_put,sz_put]; exact hs
 clear hA
 refine wpIn_seq ?_
 refine wpIn_region_list ?_
 refine wpListIn_val B.g4 (fun c=>by rw[B.p4]; exact nofun) (by simp[Oper.about,B.p4]) (.int .i64 (v+1)) (w':=W2) ?_ ?_
 ·unfold execOp
  simp only[B.p4,hA28,Instr.loadAt,Instr.sureAddr,Sem.run_bind,Sem.run_pure,Result.andThen_ok,Go.Proofs.YthklnbaddobieaaGreat.load_one ht rfl c2]
 refine wpListIn_val B.g5 (fun c=>by rw[B.p5]; exact nofun) (by simp[Oper.about,B.p5]) (.bool false) (w':=W2) ?_ ?_
 ·rw[B.d4]
  unfold execOp
  simp only[B.p5,ev_same _ 154 _ (show 154<A.tmps.size by omega)]
  rw[show(A.put (some 154) (Value.int IntKind.i64 (v+1))).eval (.const (.int .i64 2))=.int .i64 2 from rfl,Sem.run_bind,int_cmp .gtr t .i64 (v+1) 2 false (congrArg some (decide_eq_false (by omega)))]
  simp only[Result.andThen_ok,Sem.run_pure]
 rw[B.d4,B.d5]
 refine wpListIn_nil ?_
 refine wpIn_cond_false (ev_same _ 155 _ (by rw[sz_put]; omega)) (wpIn_skip ?_)
 rw[hW2]
 exact hQ _
end Tr
set_option linter.unusedSimpArgs false
namespace Tr
open Go Go.RowKit
def cBlk:Code→Code|.block _ c=>c|c=>c
def cIdB:Code→Nat|.block i _=>i|_=>0
def cL:Code→Code|.seq x _=>x|c=>c
def cR:Code→Code|.seq _ y=>y|c=>c
def cOps:Code→List Oper|.region _ ops _=>ops.toList|_=>[]
def cIdR:Code→Nat|.region i _ _=>i|_=>0
def cThen:Code→Code|.cond _ x _=>x|c=>c
end Tr
namespace Go.Proofs.YthklnbaddobieaaGreat
open Go.RowKit Go.Shelf Tr
noncomputable def backF:Func:=Tryz.f5
noncomputable def backS:Code×Code×List Code:=(splitF (bodyOf backF)).getD (.skip,.skip,[])
noncomputable def backG:Operand:=match backS.2.1 with|.block _ (.rangeFunc g _ _ _)=>g|_=>.tmp 0
noncomputable def backR:Nat×Array Tmp×Code×Code:=match backS.2.1 with|.block id (.rangeFunc _ ps a b)=>(id,ps,a,b)|_=>(0,#[],.skip,.skip)
theorem back_split:splitF (bodyOf backF)=some (backS.1,.block backR.1 (.rangeFunc backG backR.2.1 backR.2.2.1 backR.2.2.2),backS.2.2):=by kernel_rfl
theorem back_body:backF.body=some (bodyOf backF):=by kernel_rfl
noncomputable def backO (i : Nat) : Oper := ((cOps (cL (cBlk backR.2.2.2)) ++ cOps (cL (cR (cBlk backR.2.2.2)))).getD i ⟨none,.move (.tmp 0),0,"",#[],none⟩)
theorem back_shape:backR.2.2.2=.block (cIdB backR.2.2.2) (.seq (.region (cIdR (cL (cBlk backR.2.2.2))) #[backO 0,backO 1,backO 2] false) (.seq (.region (cIdR (cL (cR (cBlk backR.2.2.2)))) #[backO 3,backO 4] false) (.cond (.tmp 155) (cThen (cR (cR (cBlk backR.2.2.2)))) .skip))):=by kernel_rfl
theorem back_count:CountB 3 (backO 0) (backO 1) (backO 2) (backO 3) (backO 4):=by
 refine⟨?_,?_,?_,?_,?_,?_,?_,?_,?_,?_,?_,?_,?_,?_,?_⟩<;>kernel_rfl
theorem back_ps:backR.2.1=#[151]:=by kernel_rfl
theorem back_asg:backR.2.2.1=.skip:=by kernel_rfl
noncomputable def betF:List Tr.Fn:=[⟨19,Tryz.f19,100⟩]
theorem betF_ok:FnsOk Tryz.prog betF:=by
 intro q hq
 simp only[betF,List.mem_singleton] at hq
 subst hq
 exact⟨Tryz.func19,eo19⟩
theorem btw_stops(s t:Bool)(a b:Nat)(ha:a≤GW)(hb:b≤GW)(r q:Int)(hr:r=rkS s a)(hq:q=rkS t b)(B1 B2:Nat)(M:Nat→Prop)(n₀:Nat)(w:World)(hn0:n₀≤w.heap.size)
  (h1:∀ W',BelowM M n₀ w W'→W'.cell? ⟨B1,0,none⟩=some (.float .f64 (sgw s a))) (h2:∀ W',BelowM M n₀ w W'→W'.cell? ⟨B2,0,none⟩=some (.float .f64 (sgw t b))) :
  SeqStopsK Fence.wide 2 Tryz.prog 55 #[.pointer (some ⟨B1,0,none⟩),.pointer (some ⟨B2,0,none⟩)] (fun x:Nat=>#[.float .f64 (rkW (r+(x:Nat)))]) (BelowM M n₀) (fun ys=>ys=upto (fun k=>k) (rkN r q)) (fun pre=>∃ k,k≤rkN r q∧pre=upto (fun k=>k) k) (rkN r q) w:=fun l J Jx W hW hJ _ hY h0=>by
 have hW':BelowM M n₀ w W:=BelowM.of hW hn0
 exact btw_in s t a b ha hb r q hr hq l B1 B2 M n₀ J Jx (fun pre W W' h1 h2=>hJ pre W W' none h1 (grownBy_of_belowF h2) (fun r e=>by cases e)) hY W (Nat.le_trans hn0 hW.size) (fun W' h=>h1 W' (hW'.trans h)) (fun W' h=>h2 W' (hW'.trans h)) h0
section
variable{T:Nat→Fact}{cx:Cx}{A0 M:Nat→Prop}{w0:World}{σs σ:Sg}{st:AS}{a:Act}{w:World}
theorem live_ownB(R:Rel T cx A0 M w0 σs σ st a w){b:Nat}{cells:List AC}{ty:TypeId}(h:st.blocks[b]?=some (.live ⟨cells,ty,none⟩)):∃ n us,σ b=some n∧w.heap[n]?=some (.cells us.toArray ty (0,0))∧oks T σ cells us w (Al A0 σ st.blocks):=by
 obtain⟨n,g1,g2,us,rest,g3,g4,g5,g6,g7,g8⟩:=R.blocks b _ h
 have g8':rest=[]:=g8
 subst g8'
 exact⟨n,us,g1,by simpa using g3,g4⟩
theorem back_range(R:Rel T cx A0 M w0 σs σ st a w){b1 b2 bk i1 i2:Nat}(hsz:156≤st.tmps.length)(hg:opv (fun t=>st.tmps.getD t .undf) backG=.r (.c (.fn 55 [] [b1,b2])))(h28:opv (fun t=>st.tmps.getD t .undf) (.tmp 28)=.r (.c (.own bk 0)))
  (e1:st.blocks[b1]?=some (.live ⟨[.sym i1],28,none⟩)) (e2:st.blocks[b2]?=some (.live ⟨[.sym i2],28,none⟩)) (ek:st.blocks[bk]?=some (.live ⟨[.lit (.int .i64 0)],3,none⟩))
  {r q:Int} (hr:r.natAbs≤GW) (hq:q.natAbs≤GW) (t1:∀ v w A,T i1 v w A→v=.float .f64 (rkW r)) (t2:∀ v w A,T i2 v w A→v=.float .f64 (rkW q)) {N:Nat} (hN:rkN r q=N) (hN2:N≤2) {Q:Exit→Act→World→Prop} {n:Nat} (hn:σ bk=some n)
  (hQ:∀(D:Nat) (W:World),w.heap.size≤D→Mod n w W→W.heap[n]?=some (.cells #[.int .i64 (N:Nat)] 3 (0,0))→W.heap[D]?=some (.deferred (some []))→Q .normal { a with defers:=markD D :: a.defers } W) :
  (Code.rangeFunc backG backR.2.1 backR.2.2.1 backR.2.2.2).wp Tryz.prog Q a w:=by
 have o1:=R.operand (sl:=fun t=>st.tmps.getD t .undf) (fun t=>.inr rfl) backG
 rw[hg] at o1
 obtain⟨us,vs,heval,hu,hv⟩:=(show ∃ us vs:List Value,a.eval backG=.func (.func 55) us.toArray vs.toArray∧ptrs σ [] us∧ptrs σ [b1,b2] vs from o1)
 obtain⟨n1,us1,g1,g2,g3⟩:=live_ownB R e1
 obtain⟨n2,us2,k1,k2,k3⟩:=live_ownB R e2
 obtain⟨n',us3,m1,m2,m3⟩:=live_ownB R ek
 cases hn.symm.trans m1
 match us,hu with
 | [],_ =>
 match vs,hv with
 | [v1,v2],hv =>
 obtain⟨⟨x1,y1,rfl⟩,⟨x2,y2,rfl⟩,_⟩:=(show(∃ n,σ b1=some n∧v1=.pointer (some ⟨n,0,none⟩))∧(∃ n,σ b2=some n∧v2=.pointer (some ⟨n,0,none⟩))∧True from⟨hv.1,hv.2.1,trivial⟩)
 cases g1.symm.trans y1
 cases k1.symm.trans y2
 have o2:=R.operand (sl:=fun t=>st.tmps.getD t .undf) (fun t=>.inr rfl) (.tmp 28)
 rw[h28] at o2
 obtain⟨n3,z1,z2⟩:=(show ∃ m,σ bk=some m∧a.eval (.tmp 28)=.pointer (some ⟨m,0,none⟩) from o2)
 cases hn.symm.trans z1
 match us1,g3 with
 | [v1],g3 =>
 match us2,k3 with
 | [v2],k3 =>
 match us3,m3 with
 | [v3],m3 =>
 cases t1 _ _ _ g3.1
 cases t2 _ _ _ k3.1
 cases(show v3=.int .i64 0 from m3.1)
 have d1:n1≠n:=fun e=>by rw[e,m2] at g2; cases g2
 have d2:n2≠n:=fun e=>by rw[e,m2] at k2; cases k2
 have l1:=(Array.getElem?_eq_some_iff.1 g2).1
 have l2:=(Array.getElem?_eq_some_iff.1 k2).1
 have l3:=(Array.getElem?_eq_some_iff.1 m2).1
 have has:156≤a.tmps.size:=by have:=R.size; omega
 have hr':r=rkS (decide (r<0)) r.natAbs:=(rkS_dec r).symm
 have hq':q=rkS (decide (q<0)) q.natAbs:=(rkS_dec q).symm
 have hi1:((Tryz.prog).info? 3).map (·.size)=some 1:=by kernel_rfl
 rw[back_ps,back_asg,back_shape]
 refine wpIn_wide.1 (wpIn_rangeFunc_ownH (α:=Nat) (n:=3) (w0:=w) (gf:=55) (lb:=#[.pointer (some ⟨n1,0,none⟩),.pointer (some ⟨n2,0,none⟩)]) rfl (by decide) heval (fence_wide_fn _) (enters_of Tryz.func55 (by kernel_rfl) rfl)
  (btw_stops (decide (r<0)) (decide (q<0)) r.natAbs q.natAbs hr hq r q hr' hq' n1 n2 (fun k=>k=n) w.heap.size w (Nat.le_refl _) ?h1 ?h2)
  (fun h k=>h.trans k) ?hKb br (fun _=>rfl)
  (fun pre W=>W.heap[n]?=some (.cells #[.int .i64 (pre.length:Nat)] 3 (0,0))∧BelowM (fun k=>k=n) w.heap.size w W)
  (fun c pre W=>False)
  ?hI ?hIx ?h0
  (fun x a' W=>156≤a'.tmps.size∧a'.eval (.tmp 28)=.pointer (some ⟨n,0,none⟩))
  ?hAx ?assign ?body ?done ?stop)
 case h1=>exact fun W h=>(World.cell?_of_block (w:=w) (h.block n1 l1 d1)).trans (by rw[←rkW_sgw]; unfold World.cell?; simp only[g2]; rfl)
 case h2=>exact fun W h=>(World.cell?_of_block (w:=w) (h.block n2 l2 d2)).trans (by rw[←rkW_sgw]; unfold World.cell?; simp only[k2]; rfl)
 case hKb =>
  intro W l o o' hl ho h1 h2
  exact⟨rfl,rfl,rfl,by simp[World.putObj],fun k hk _=>World.putObj_heap_other (by omega)⟩
 case hI =>
  rintro pre W W' row ⟨hv,hB⟩ hg hr
  have hx:W'.heap[n]?=W.heap[n]?:=hg.block _ (Array.getElem?_eq_some_iff.1 hv).1 (fun e=>by
   obtain⟨k1,o,k2,k3⟩:=hr _ e.symm
   omega)
  refine⟨hx.trans hv,hB.trans ⟨hg.os,hg.tape,hg.output,hg.size,fun k hk _=>hg.block k (Nat.lt_of_lt_of_le hk hB.size) (fun e=>?_)⟩⟩
  have:=(hr _ e.symm).1
  omega
 case hIx=>rintro c pre W W' row h; exact h.elim
 case h0=>exact⟨m2,BelowM.refl _ _ _⟩
 case hAx=>rintro x a' u W W' row h hg hr; exact h
 case assign =>
  intro l pre x W K hI hK
  refine wpIn_skip ?_
  have hf:∀ v:Value,Array.foldl (fun t (x:Tmp×Value)=>match x with|(p,v)=>t.setIfInBounds p v) a.tmps (#[151].zip #[v])=a.tmps.setIfInBounds 151 v:=fun v=>by simp
  show K _ W
  rw[hf]
  refine hK _ _ ⟨Nat.le_refl _,fun k o _ h _=>h⟩ (BelowM.refl _ _ _) hI ⟨?_,?_⟩
  ·show 156≤(a.tmps.setIfInBounds 151 _).size
   simpa using has
  ·exact(ev_other { tmps:=a.tmps,defers:=[] } 151 28 _ (by decide)).trans z2
 case body =>
  rintro l pre x a' W hl ⟨rl,hrl⟩ ⟨hv,hB⟩ ⟨ha1,ha2⟩ hlen
  rw[hN] at hlen
  refine count_body Tryz.underlying3 hi1 back_count ha1 ha2 hv (by omega) (by omega) ?_
  intro a2
  have e3:((pre++[x]).length:Int)=(pre.length:Nat)+1:=by simp
  refine⟨⟨by simp[World.setRow],fun k o hk ho hc=>?_⟩,⟨rfl,rfl,rfl,by simp[World.setRow],fun k hk hne=>setRow_other _ _ _ _ hne⟩,?_,hB.trans ⟨rfl,rfl,rfl,by simp[World.setRow],fun k hk hne=>setRow_other _ _ _ _ hne⟩⟩
  ·exact(setRow_other _ _ _ _ (by omega)).trans ho
  ·rw[e3]; exact setRow_heap _ _ _ _ _ _ hv
 case done =>
  rintro D xs W hD hxs ⟨hv,hB⟩ hD2
  have e10:xs.length=N:=by rw[show xs=upto (fun k=>k) (rkN r q) from hxs,upto_length,hN]
  rw[e10] at hv
  exact hQ D W hD ⟨hB.os,hB.tape,hB.output,hB.size,fun k hk hne=>hB.block k hk hne⟩ hv hD2
 case stop=>rintro D c pre W hD _ h hD2; exact h.elim
end
end Go.Proofs.YthklnbaddobieaaGreat
