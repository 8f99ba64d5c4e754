/- Laws for the walk. -/
import Derived.Test.YthklnbaddobieaaGreatUbd
import Derived.RangeFuncNested
import Derived.RangeFuncBound
import Derived.RangeFuncCalls
import Derived.RangeFuncLeaves
import Derived.RangeFuncBox
import Derived.Shelf.Abstract
import Derived.Shelf.RegionOpen
import Derived.OwnWalkIn
import Derived.TacticsInMore
import Derived.LoopNIn
import Derived.LoopIn
set_option linter.unusedVariables false
set_option maxHeartbeats 4000000
set_option linter.unusedSimpArgs false
namespace Tr
open Ieee
theorem f64_fun{q:Rat}{x y:Nat}(hx:F64 q x)(hy:F64 q y):x=y:=by
 obtain⟨B,h1,rfl⟩:=hx
 obtain⟨C,h2,rfl⟩:=hy
 rw[nearB_fun h1 h2]
theorem sgw_inj{s t:Bool}{a b:Nat}(h:sgw s a=sgw t b)(ha:a≤GW+1)(hb:b≤GW+1):s=t∧a=b:=by
 unfold sgw GW at *
 cases s<;>cases t<;>simp at h ⊢<;>omega
theorem pz_eq{s t:Bool}{a b:Nat}(h:sgw s a=sgw t b)(ha:a≤GW)(hb:b≤GW):pz s a=pz t b:=by
 obtain⟨rfl,rfl⟩:=sgw_inj h (by omega) (by omega); rfl
end Tr
namespace Go.Proofs.YthklnbaddobieaaGreat
open Go.RowKit Tr
theorem RL_sF{q:Rat}(h:ShortF q):RL q 1024:=⟨Nat.le_trans (wl_size (numS_strN _)) h.1,Nat.le_trans (wl_size (numS_strN _)) h.2⟩
def E66:Nat:=2112
theorem E66_eq:E66=2112:=rfl
theorem vv_lt{b:Nat}(hb:b≤GW):VV b<2 ^ E66:=by
 refine Nat.lt_of_le_of_lt (VV_le hb) ?_
 have e:GW=Bt (U44+1) 9007199254740991:=by unfold GW Bt; rw[U44_eq]
 rw[e,VV_bt ⟨by decide,.inr (by decide)⟩]
 have h1:(9007199254740991:Nat)*2 ^ (U44+1)<2 ^ 53*2 ^ (U44+1):=Nat.mul_lt_mul_of_pos_right (by decide) (Nat.two_pow_pos _)
 rw[←Nat.pow_add] at h1
 refine Nat.lt_of_lt_of_le h1 (Nat.pow_le_pow_right (by decide) ?_)
 rw[U44_eq,E66_eq]; decide
theorem wl_of{n j:Nat}(h:n<2 ^ (32*j)):(words n).length≤j:=by
 refine words_length_le ?_
 rw[show(4294967296:Nat)=2 ^ 32 by decide,←Nat.pow_mul]; exact h
theorem wl_at{n e:Nat}(j:Nat)(h:n<2 ^ e)(he:e=32*j):(words n).length≤j:=by subst he; exact wl_of h
theorem wl_66{n:Nat}(h:n<2 ^ E66):(words n).length≤66:=wl_at 66 h E66_eq
theorem fq_divInt(s:Bool)(b:Nat):fq s b=Rat.divInt (sgv s b) ((2 ^ UU:Nat):Int):=by
 unfold fq; rw[Rat.divInt_eq_div]; rfl
theorem uu_int:((2 ^ UU:Nat):Int)≠0:=by have:=Nat.two_pow_pos UU; omega
theorem uu_wl:(words (2 ^ UU)).length≤66:=wl_66 (Nat.pow_lt_pow_right (by decide) (by rw[UU_eq,E66_eq]; decide))
theorem RL_fq{s:Bool}{b:Nat}(hb:b≤GW):RL (fq s b) 66:=by
 rw[fq_divInt]
 refine RL_divInt uu_int ?_ ?_
 ·rw[sgv_abs]; exact wl_66 (vv_lt hb)
 ·rw[Int.natAbs_natCast]; exact uu_wl
structure RwF where
 n1:Bool
 n2:Bool
 s1:ByteArray
 s2:ByteArray
def RwF.val(f:RwF):Value:=.agg #[.bool f.n1,.string f.s1,.bool f.n2,.string f.s2]
def RwF.cells(f:RwF):List GF:=[gx (.bool f.n1),gx (.string f.s1),gx (.bool f.n2),gx (.string f.s2)]
theorem pure_of{P:Program}{f:FuncId}{vs:List Value}{v:Value}(h:∀ w,Calls P f vs.toArray w fun e w'=>e=.returned v∧w=w'):PureC P f vs v:=fun w=>(h w).mono fun e w' ⟨h1,h2⟩=>⟨h1,by subst h2; exact Below.refl _ _⟩
theorem aFMay(f:RwF)(r:Bool)(hr:r=true↔FracOk f.val):SpecC Tryz.prog true 22 [.row f.cells] (B1 r) :=
 spec1 eo22 fun w A u _ _ hu=>by
  rw[(FR.val_ok (u:=f.val) (x:=.row f.cells) (by kernel_rfl)).1 hu]
  exact(May_free f.n1 f.n2 f.s1 f.s2 r hr w).mono fun r' w' h=>⟨_,h.1,rfl,h.2⟩
theorem aFMayN(f:RwF)(h:¬FracOk f.val):SpecC Tryz.prog true 22 [.row f.cells] (.r (.c (gl (.bool false)))) :=
 aFMay f false ⟨fun e=>(by cases e),fun k=>absurd k h⟩
theorem aFMayQ(q:Rat)(h:ShortF q):SpecC Tryz.prog true 22 [F1 q] (.r (.c (gl (.bool true)))) :=
 aFMay ⟨decide (q.num<0),false,strN q.num.natAbs,strN q.den⟩ true ⟨fun _=>⟨q,rfl,h.1,h.2⟩,fun _=>rfl⟩
theorem den_str(q:Rat):numS (strN q.den)≠0:=by rw[numS_strN]; exact q.den_nz
theorem aXRat(q:Rat)(h:ShortF q):SpecC Tryz.prog true 35 [F1 q] (.r (.c (gr q))) :=
 spec1 eo35 fun w A u hR _ hu=>by
  rw[(FR.val_ok (u:=encF q) (x:=.row (rF q)) (by kernel_rfl)).1 hu]
  refine(XRat_any _ _ _ _ (den_str q) (Nat.lt_of_le_of_lt h.1 (by decide)) (Nat.lt_of_le_of_lt h.2 (by decide)) w).mono ?_
  rintro e w' ⟨v,h1,h2⟩
  rw[encF_divInt rfl] at h2
  exact⟨v,h1,h2.2 A (hR rfl),h2.1⟩
theorem aF64(q:Rat){x:Nat}(hF:F64 q x)(hl:RL q 2048):SpecC Tryz.prog true 36 [.c (gr q)] (.tup [.c (gx (.float .f64 x)),.c ga]) :=
 spec1 eo36 fun w A u hR _ hu=>(F64_any q u A w hu hl).mono fun e w' ⟨x',b,h1,h2,h3⟩=>by
  rw[f64_fun h2 hF] at h1
  exact⟨_,h1,⟨[.float .f64 x,.bool b],rfl,rfl,⟨rfl,fun k x=>by simp⟩,trivial⟩,h3⟩
theorem aNRat{s:Bool}{b:Nat}(hb:b≤GW):SpecC Tryz.prog true 39 [.c (gx (.float .f64 (sgw s b)))] (.r (.c (gr (fq s b)))) :=
 spec1 eo39 fun w A u hR _ hu=>by
  cases(hu:u=_)
  exact(nrat_any (s:=s) hb w).mono fun e w' ⟨v,h1,h2⟩=>⟨v,h1,h2.2 A (hR rfl),h2.1⟩
theorem aFin{s:Bool}{b:Nat}(hb:b<9223372036854775808)(r:Bool)(hr:r=decide (b≤GW)):PureC Tryz.prog 37 [.float .f64 (sgw s b)] (.bool r) :=
 pure_of fun w=>by rw[hr]; exact nfinite_any hb w
theorem gw63{b:Nat}(h:b≤GW):b<9223372036854775808:=by unfold GW at h; omega
theorem gwT{b:Nat}(h:b≤GW):true=decide (b≤GW):=by simp[h]
theorem isinf_n1{s:Bool}{b:Nat}(h:b≤GW):PureC Tryz.prog 38 [.float .f64 (sgw s b),.int .i64 1] (.bool false) :=
 pure_of fun w=>by
  have:=isinf1_any (s:=s) (b:=b) (by omega) w
  rwa[show(!s && decide (b=GW+1))=false by simp; omega] at this
theorem isinf_nm{s:Bool}{b:Nat}(h:b≤GW):PureC Tryz.prog 38 [.float .f64 (sgw s b),.int .i64 (-1)] (.bool false) :=
 pure_of fun w=>by
  have:=isinfm_any (s:=s) (b:=b) (by omega) w
  rwa[show(s && decide (b=GW+1))=false by simp; omega] at this
theorem aNext{s:Bool}{b x:Nat}(hb:b≤GW)(hn:nxW s b=x):PureC Tryz.prog 41 [.float .f64 (sgw s b)] (.float .f64 x) :=
 pure_of fun w=>by rw[←hn]; exact next_any hb w
theorem isinf_p1:PureC Tryz.prog 38 [.float .f64 (sgw false (GW+1)),.int .i64 1] (.bool true):=pure_of fun w=>isinf1_any (s:=false) (b:=GW+1) (Nat.le_refl _) w
theorem isinf_m1:PureC Tryz.prog 38 [.float .f64 (sgw true (GW+1)),.int .i64 1] (.bool false):=pure_of fun w=>isinf1_any (s:=true) (b:=GW+1) (Nat.le_refl _) w
theorem isinf_mm:PureC Tryz.prog 38 [.float .f64 (sgw true (GW+1)),.int .i64 (-1)] (.bool true):=pure_of fun w=>isinfm_any (s:=true) (b:=GW+1) (Nat.le_refl _) w
theorem cmpR_lt{x y:Rat}(h:x<y):cmpB .lss (cmpR x y) 0=some true:=by unfold cmpR; rw[if_pos h]; rfl
theorem cmpR_ge{x y:Rat}(h:¬x<y):cmpB .lss (cmpR x y) 0=some false:=by
 unfold cmpR; rw[if_neg h]; split<;>rfl
-- @@GEN
theorem nFloat_ok(q:Rat)(h:ShortF q){s:Bool}{b:Nat}(hF:F64 q (sgw s b))(hb:b≤GW):SpecC Tryz.prog true 10 [F1 q] (.tup [.c (gx (.float .f64 (pz s b))),.c (gl (.int .i64 0))]) :=
  ev_sp (L:=rF q++[gr q,gx (.float .f64 (sgw s b)),ga,gx (.float .f64 (pz s b))]) tys_ok mixed
    [gs (aFMayQ q h) [.row [.sym 0,.sym 1,.sym 2,.sym 3]] (.r (.c (.lit (.bool true)))),gs (aXRat q h) [.row [.sym 0,.sym 1,.sym 2,.sym 3]] (.r (.c (.sym 4))),gs (aF64 q hF ((RL_sF h).mono (by decide))) [.c (.sym 4)] (.tup [.c (.sym 5),.c (.sym 6)]),gp 37 [.c (.sym 5)] (.r (.c (.lit (.bool true)))) eo37 (aFin (s:=s) (b:=b) (gw63 hb) true (gwT hb)) (by kernel_rfl) (by kernel_rfl)]
    [gb .add 28 (.c (.sym 5)) (.c (.lit (.flt 0))) (.sym 7) (fl_arith .add _ _ _ _ (add_zero (s:=s) (b:=b) hb)) (by kernel_rfl) (by kernel_rfl) (by kernel_rfl)] []
    Tryz.func10 eo10 100 [.row [.sym 0,.sym 1,.sym 2,.sym 3]] (.tup [.c (.sym 7),.c (.lit (.int .i64 0))])
theorem nFloat_inf(q:Rat)(h:ShortF q){s:Bool}(hF:F64 q (sgw s (GW+1))):SpecC Tryz.prog true 10 [F1 q] (.tup [.c (gl (.flt 0)),.c (gl (.int .i64 6))]) :=
  ev_sp (L:=rF q++[gr q,gx (.float .f64 (sgw s (GW+1))),ga]) tys_ok mixed
    [gs (aFMayQ q h) [.row [.sym 0,.sym 1,.sym 2,.sym 3]] (.r (.c (.lit (.bool true)))),gs (aXRat q h) [.row [.sym 0,.sym 1,.sym 2,.sym 3]] (.r (.c (.sym 4))),gs (aF64 q hF ((RL_sF h).mono (by decide))) [.c (.sym 4)] (.tup [.c (.sym 5),.c (.sym 6)]),gp 37 [.c (.sym 5)] (.r (.c (.lit (.bool false)))) eo37 (aFin (s:=s) (b:=GW+1) (by decide) false (by decide)) (by kernel_rfl) (by kernel_rfl)] [] []
    Tryz.func10 eo10 100 [.row [.sym 0,.sym 1,.sym 2,.sym 3]] (.tup [.c (.lit (.flt 0)),.c (.lit (.int .i64 6))])
theorem nUp_pl(q:Rat)(h:ShortF q)(hF:F64 q (sgw false (GW+1)))(hlt:fq false GW<q){t:Bool}{d:Nat}(hn:nxW false GW=sgw t d)(hd:d≤GW):SpecC Tryz.prog true 11 [F1 q] (.tup [.c (gx (.float .f64 (pz t d))),.c (gl (.int .i64 0))]) :=
  ev_sp (L:=rF q++[gr q,gx (.float .f64 (sgw false (GW+1))),ga,gr (fq false GW),gx (.int .i64 (cmpR (fq false GW) q)),gx (.float .f64 (sgw t d)),gx (.float .f64 (pz t d))]) tys_ok mixed
    [gs (aFMayQ q h) [.row [.sym 0,.sym 1,.sym 2,.sym 3]] (.r (.c (.lit (.bool true)))),gs (aXRat q h) [.row [.sym 0,.sym 1,.sym 2,.sym 3]] (.r (.c (.sym 4))),gs (aF64 q hF ((RL_sF h).mono (by decide))) [.c (.sym 4)] (.tup [.c (.sym 5),.c (.sym 6)]),gp 38 [.c (.sym 5),.c (.lit (.int .i64 1))] (.r (.c (.lit (.bool true)))) eo38 (isinf_p1) (by kernel_rfl) (by kernel_rfl),gs (aNRat (s:=false) (b:=GW) (Nat.le_refl GW)) [.c (.lit (.flt 9218868437227405311))] (.r (.c (.sym 7))),gs (pRCmp (fq false GW) q (RL_fq (Nat.le_refl GW)) (RL_sF h) (by decide)) [.c (.sym 7),.c (.sym 4)] (.r (.c (.sym 8))),gp 41 [.c (.lit (.flt 9218868437227405311))] (.r (.c (.sym 9))) eo41 (aNext (s:=false) (b:=GW) (Nat.le_refl GW) hn) (by kernel_rfl) (by kernel_rfl),gp 37 [.c (.sym 9)] (.r (.c (.lit (.bool true)))) eo37 (aFin (s:=t) (b:=d) (gw63 hd) true (gwT hd)) (by kernel_rfl) (by kernel_rfl)]
    [gbInt .lss 3 .i64 (.sym 8) (.lit (.int .i64 0)) _ _ true (cmpR_lt hlt) (by kernel_rfl) (by kernel_rfl),gb .add 28 (.c (.sym 9)) (.c (.lit (.flt 0))) (.sym 10) (fl_arith .add _ _ _ _ (add_zero (s:=t) (b:=d) hd)) (by kernel_rfl) (by kernel_rfl) (by kernel_rfl)] []
    Tryz.func11 eo11 100 [.row [.sym 0,.sym 1,.sym 2,.sym 3]] (.tup [.c (.sym 10),.c (.lit (.int .i64 0))])
theorem nUp_pli(q:Rat)(h:ShortF q)(hF:F64 q (sgw false (GW+1)))(hlt:fq false GW<q)(hn:nxW false GW=GW+1):SpecC Tryz.prog true 11 [F1 q] (.tup [.c (gl (.flt 0)),.c (gl (.int .i64 6))]) :=
  ev_sp (L:=rF q++[gr q,gx (.float .f64 (sgw false (GW+1))),ga,gr (fq false GW),gx (.int .i64 (cmpR (fq false GW) q)),gx (.float .f64 (GW+1))]) tys_ok mixed
    [gs (aFMayQ q h) [.row [.sym 0,.sym 1,.sym 2,.sym 3]] (.r (.c (.lit (.bool true)))),gs (aXRat q h) [.row [.sym 0,.sym 1,.sym 2,.sym 3]] (.r (.c (.sym 4))),gs (aF64 q hF ((RL_sF h).mono (by decide))) [.c (.sym 4)] (.tup [.c (.sym 5),.c (.sym 6)]),gp 38 [.c (.sym 5),.c (.lit (.int .i64 1))] (.r (.c (.lit (.bool true)))) eo38 (isinf_p1) (by kernel_rfl) (by kernel_rfl),gs (aNRat (s:=false) (b:=GW) (Nat.le_refl GW)) [.c (.lit (.flt 9218868437227405311))] (.r (.c (.sym 7))),gs (pRCmp (fq false GW) q (RL_fq (Nat.le_refl GW)) (RL_sF h) (by decide)) [.c (.sym 7),.c (.sym 4)] (.r (.c (.sym 8))),gp 41 [.c (.lit (.flt 9218868437227405311))] (.r (.c (.sym 9))) eo41 (aNext (s:=false) (b:=GW) (Nat.le_refl GW) hn) (by kernel_rfl) (by kernel_rfl),gp 37 [.c (.sym 9)] (.r (.c (.lit (.bool false)))) eo37 (aFin (s:=false) (b:=GW+1) (by decide) false (by decide)) (by kernel_rfl) (by kernel_rfl)]
    [gbInt .lss 3 .i64 (.sym 8) (.lit (.int .i64 0)) _ _ true (cmpR_lt hlt) (by kernel_rfl) (by kernel_rfl)] []
    Tryz.func11 eo11 100 [.row [.sym 0,.sym 1,.sym 2,.sym 3]] (.tup [.c (.lit (.flt 0)),.c (.lit (.int .i64 6))])
theorem nUp_pg(q:Rat)(h:ShortF q)(hF:F64 q (sgw false (GW+1)))(hlt:¬fq false GW<q):SpecC Tryz.prog true 11 [F1 q] (.tup [.c (gx (.float .f64 (pz false GW))),.c (gl (.int .i64 0))]) :=
  ev_sp (L:=rF q++[gr q,gx (.float .f64 (sgw false (GW+1))),ga,gr (fq false GW),gx (.int .i64 (cmpR (fq false GW) q)),gx (.float .f64 (pz false GW))]) tys_ok mixed
    [gs (aFMayQ q h) [.row [.sym 0,.sym 1,.sym 2,.sym 3]] (.r (.c (.lit (.bool true)))),gs (aXRat q h) [.row [.sym 0,.sym 1,.sym 2,.sym 3]] (.r (.c (.sym 4))),gs (aF64 q hF ((RL_sF h).mono (by decide))) [.c (.sym 4)] (.tup [.c (.sym 5),.c (.sym 6)]),gp 38 [.c (.sym 5),.c (.lit (.int .i64 1))] (.r (.c (.lit (.bool true)))) eo38 (isinf_p1) (by kernel_rfl) (by kernel_rfl),gs (aNRat (s:=false) (b:=GW) (Nat.le_refl GW)) [.c (.lit (.flt 9218868437227405311))] (.r (.c (.sym 7))),gs (pRCmp (fq false GW) q (RL_fq (Nat.le_refl GW)) (RL_sF h) (by decide)) [.c (.sym 7),.c (.sym 4)] (.r (.c (.sym 8))),gp 37 [.c (.lit (.flt 9218868437227405311))] (.r (.c (.lit (.bool true)))) eo37 (aFin (s:=false) (b:=GW) (gw63 (Nat.le_refl GW)) true (gwT (Nat.le_refl GW))) (by kernel_rfl) (by kernel_rfl)]
    [gbInt .lss 3 .i64 (.sym 8) (.lit (.int .i64 0)) _ _ false (cmpR_ge hlt) (by kernel_rfl) (by kernel_rfl),gb .add 28 (.c (.lit (.flt 9218868437227405311))) (.c (.lit (.flt 0))) (.sym 9) (fl_arith .add _ _ _ _ (add_zero (s:=false) (b:=GW) (Nat.le_refl GW))) (by kernel_rfl) (by kernel_rfl) (by kernel_rfl)] []
    Tryz.func11 eo11 100 [.row [.sym 0,.sym 1,.sym 2,.sym 3]] (.tup [.c (.sym 9),.c (.lit (.int .i64 0))])
theorem nUp_ml(q:Rat)(h:ShortF q)(hF:F64 q (sgw true (GW+1)))(hlt:fq true GW<q){t:Bool}{d:Nat}(hn:nxW true GW=sgw t d)(hd:d≤GW):SpecC Tryz.prog true 11 [F1 q] (.tup [.c (gx (.float .f64 (pz t d))),.c (gl (.int .i64 0))]) :=
  ev_sp (L:=rF q++[gr q,gx (.float .f64 (sgw true (GW+1))),ga,gr (fq true GW),gx (.int .i64 (cmpR (fq true GW) q)),gx (.float .f64 (sgw t d)),gx (.float .f64 (pz t d))]) tys_ok mixed
    [gs (aFMayQ q h) [.row [.sym 0,.sym 1,.sym 2,.sym 3]] (.r (.c (.lit (.bool true)))),gs (aXRat q h) [.row [.sym 0,.sym 1,.sym 2,.sym 3]] (.r (.c (.sym 4))),gs (aF64 q hF ((RL_sF h).mono (by decide))) [.c (.sym 4)] (.tup [.c (.sym 5),.c (.sym 6)]),gp 38 [.c (.sym 5),.c (.lit (.int .i64 1))] (.r (.c (.lit (.bool false)))) eo38 (isinf_m1) (by kernel_rfl) (by kernel_rfl),gp 38 [.c (.sym 5),.c (.lit (.int .i64 (-1)))] (.r (.c (.lit (.bool true)))) eo38 (isinf_mm) (by kernel_rfl) (by kernel_rfl),gs (aNRat (s:=true) (b:=GW) (Nat.le_refl GW)) [.c (.lit (.flt 18442240474082181119))] (.r (.c (.sym 7))),gs (pRCmp (fq true GW) q (RL_fq (Nat.le_refl GW)) (RL_sF h) (by decide)) [.c (.sym 7),.c (.sym 4)] (.r (.c (.sym 8))),gp 41 [.c (.lit (.flt 18442240474082181119))] (.r (.c (.sym 9))) eo41 (aNext (s:=true) (b:=GW) (Nat.le_refl GW) hn) (by kernel_rfl) (by kernel_rfl),gp 37 [.c (.sym 9)] (.r (.c (.lit (.bool true)))) eo37 (aFin (s:=t) (b:=d) (gw63 hd) true (gwT hd)) (by kernel_rfl) (by kernel_rfl)]
    [gbInt .lss 3 .i64 (.sym 8) (.lit (.int .i64 0)) _ _ true (cmpR_lt hlt) (by kernel_rfl) (by kernel_rfl),gb .add 28 (.c (.sym 9)) (.c (.lit (.flt 0))) (.sym 10) (fl_arith .add _ _ _ _ (add_zero (s:=t) (b:=d) hd)) (by kernel_rfl) (by kernel_rfl) (by kernel_rfl)] []
    Tryz.func11 eo11 100 [.row [.sym 0,.sym 1,.sym 2,.sym 3]] (.tup [.c (.sym 10),.c (.lit (.int .i64 0))])
theorem nUp_mli(q:Rat)(h:ShortF q)(hF:F64 q (sgw true (GW+1)))(hlt:fq true GW<q)(hn:nxW true GW=GW+1):SpecC Tryz.prog true 11 [F1 q] (.tup [.c (gl (.flt 0)),.c (gl (.int .i64 6))]) :=
  ev_sp (L:=rF q++[gr q,gx (.float .f64 (sgw true (GW+1))),ga,gr (fq true GW),gx (.int .i64 (cmpR (fq true GW) q)),gx (.float .f64 (GW+1))]) tys_ok mixed
    [gs (aFMayQ q h) [.row [.sym 0,.sym 1,.sym 2,.sym 3]] (.r (.c (.lit (.bool true)))),gs (aXRat q h) [.row [.sym 0,.sym 1,.sym 2,.sym 3]] (.r (.c (.sym 4))),gs (aF64 q hF ((RL_sF h).mono (by decide))) [.c (.sym 4)] (.tup [.c (.sym 5),.c (.sym 6)]),gp 38 [.c (.sym 5),.c (.lit (.int .i64 1))] (.r (.c (.lit (.bool false)))) eo38 (isinf_m1) (by kernel_rfl) (by kernel_rfl),gp 38 [.c (.sym 5),.c (.lit (.int .i64 (-1)))] (.r (.c (.lit (.bool true)))) eo38 (isinf_mm) (by kernel_rfl) (by kernel_rfl),gs (aNRat (s:=true) (b:=GW) (Nat.le_refl GW)) [.c (.lit (.flt 18442240474082181119))] (.r (.c (.sym 7))),gs (pRCmp (fq true GW) q (RL_fq (Nat.le_refl GW)) (RL_sF h) (by decide)) [.c (.sym 7),.c (.sym 4)] (.r (.c (.sym 8))),gp 41 [.c (.lit (.flt 18442240474082181119))] (.r (.c (.sym 9))) eo41 (aNext (s:=true) (b:=GW) (Nat.le_refl GW) hn) (by kernel_rfl) (by kernel_rfl),gp 37 [.c (.sym 9)] (.r (.c (.lit (.bool false)))) eo37 (aFin (s:=false) (b:=GW+1) (by decide) false (by decide)) (by kernel_rfl) (by kernel_rfl)]
    [gbInt .lss 3 .i64 (.sym 8) (.lit (.int .i64 0)) _ _ true (cmpR_lt hlt) (by kernel_rfl) (by kernel_rfl)] []
    Tryz.func11 eo11 100 [.row [.sym 0,.sym 1,.sym 2,.sym 3]] (.tup [.c (.lit (.flt 0)),.c (.lit (.int .i64 6))])
theorem nUp_mg(q:Rat)(h:ShortF q)(hF:F64 q (sgw true (GW+1)))(hlt:¬fq true GW<q):SpecC Tryz.prog true 11 [F1 q] (.tup [.c (gx (.float .f64 (pz true GW))),.c (gl (.int .i64 0))]) :=
  ev_sp (L:=rF q++[gr q,gx (.float .f64 (sgw true (GW+1))),ga,gr (fq true GW),gx (.int .i64 (cmpR (fq true GW) q)),gx (.float .f64 (pz true GW))]) tys_ok mixed
    [gs (aFMayQ q h) [.row [.sym 0,.sym 1,.sym 2,.sym 3]] (.r (.c (.lit (.bool true)))),gs (aXRat q h) [.row [.sym 0,.sym 1,.sym 2,.sym 3]] (.r (.c (.sym 4))),gs (aF64 q hF ((RL_sF h).mono (by decide))) [.c (.sym 4)] (.tup [.c (.sym 5),.c (.sym 6)]),gp 38 [.c (.sym 5),.c (.lit (.int .i64 1))] (.r (.c (.lit (.bool false)))) eo38 (isinf_m1) (by kernel_rfl) (by kernel_rfl),gp 38 [.c (.sym 5),.c (.lit (.int .i64 (-1)))] (.r (.c (.lit (.bool true)))) eo38 (isinf_mm) (by kernel_rfl) (by kernel_rfl),gs (aNRat (s:=true) (b:=GW) (Nat.le_refl GW)) [.c (.lit (.flt 18442240474082181119))] (.r (.c (.sym 7))),gs (pRCmp (fq true GW) q (RL_fq (Nat.le_refl GW)) (RL_sF h) (by decide)) [.c (.sym 7),.c (.sym 4)] (.r (.c (.sym 8))),gp 37 [.c (.lit (.flt 18442240474082181119))] (.r (.c (.lit (.bool true)))) eo37 (aFin (s:=true) (b:=GW) (gw63 (Nat.le_refl GW)) true (gwT (Nat.le_refl GW))) (by kernel_rfl) (by kernel_rfl)]
    [gbInt .lss 3 .i64 (.sym 8) (.lit (.int .i64 0)) _ _ false (cmpR_ge hlt) (by kernel_rfl) (by kernel_rfl),gb .add 28 (.c (.lit (.flt 18442240474082181119))) (.c (.lit (.flt 0))) (.sym 9) (fl_arith .add _ _ _ _ (add_zero (s:=true) (b:=GW) (Nat.le_refl GW))) (by kernel_rfl) (by kernel_rfl) (by kernel_rfl)] []
    Tryz.func11 eo11 100 [.row [.sym 0,.sym 1,.sym 2,.sym 3]] (.tup [.c (.sym 9),.c (.lit (.int .i64 0))])
theorem nUp_nl(q:Rat)(h:ShortF q){s:Bool}{b:Nat}(hb:b≤GW)(hF:F64 q (sgw s b))(hlt:fq s b<q){t:Bool}{d:Nat}(hn:nxW s b=sgw t d)(hd:d≤GW):SpecC Tryz.prog true 11 [F1 q] (.tup [.c (gx (.float .f64 (pz t d))),.c (gl (.int .i64 0))]) :=
  ev_sp (L:=rF q++[gr q,gx (.float .f64 (sgw s b)),ga,gr (fq s b),gx (.int .i64 (cmpR (fq s b) q)),gx (.float .f64 (sgw t d)),gx (.float .f64 (pz t d))]) tys_ok mixed
    [gs (aFMayQ q h) [.row [.sym 0,.sym 1,.sym 2,.sym 3]] (.r (.c (.lit (.bool true)))),gs (aXRat q h) [.row [.sym 0,.sym 1,.sym 2,.sym 3]] (.r (.c (.sym 4))),gs (aF64 q hF ((RL_sF h).mono (by decide))) [.c (.sym 4)] (.tup [.c (.sym 5),.c (.sym 6)]),gp 38 [.c (.sym 5),.c (.lit (.int .i64 1))] (.r (.c (.lit (.bool false)))) eo38 (isinf_n1 (s:=s) (b:=b) hb) (by kernel_rfl) (by kernel_rfl),gp 38 [.c (.sym 5),.c (.lit (.int .i64 (-1)))] (.r (.c (.lit (.bool false)))) eo38 (isinf_nm (s:=s) (b:=b) hb) (by kernel_rfl) (by kernel_rfl),gs (aNRat (s:=s) (b:=b) hb) [.c (.sym 5)] (.r (.c (.sym 7))),gs (pRCmp (fq s b) q (RL_fq hb) (RL_sF h) (by decide)) [.c (.sym 7),.c (.sym 4)] (.r (.c (.sym 8))),gp 41 [.c (.sym 5)] (.r (.c (.sym 9))) eo41 (aNext (s:=s) (b:=b) hb hn) (by kernel_rfl) (by kernel_rfl),gp 37 [.c (.sym 9)] (.r (.c (.lit (.bool true)))) eo37 (aFin (s:=t) (b:=d) (gw63 hd) true (gwT hd)) (by kernel_rfl) (by kernel_rfl)]
    [gbInt .lss 3 .i64 (.sym 8) (.lit (.int .i64 0)) _ _ true (cmpR_lt hlt) (by kernel_rfl) (by kernel_rfl),gb .add 28 (.c (.sym 9)) (.c (.lit (.flt 0))) (.sym 10) (fl_arith .add _ _ _ _ (add_zero (s:=t) (b:=d) hd)) (by kernel_rfl) (by kernel_rfl) (by kernel_rfl)] []
    Tryz.func11 eo11 100 [.row [.sym 0,.sym 1,.sym 2,.sym 3]] (.tup [.c (.sym 10),.c (.lit (.int .i64 0))])
theorem nUp_nli(q:Rat)(h:ShortF q){s:Bool}{b:Nat}(hb:b≤GW)(hF:F64 q (sgw s b))(hlt:fq s b<q)(hn:nxW s b=GW+1):SpecC Tryz.prog true 11 [F1 q] (.tup [.c (gl (.flt 0)),.c (gl (.int .i64 6))]) :=
  ev_sp (L:=rF q++[gr q,gx (.float .f64 (sgw s b)),ga,gr (fq s b),gx (.int .i64 (cmpR (fq s b) q)),gx (.float .f64 (GW+1))]) tys_ok mixed
    [gs (aFMayQ q h) [.row [.sym 0,.sym 1,.sym 2,.sym 3]] (.r (.c (.lit (.bool true)))),gs (aXRat q h) [.row [.sym 0,.sym 1,.sym 2,.sym 3]] (.r (.c (.sym 4))),gs (aF64 q hF ((RL_sF h).mono (by decide))) [.c (.sym 4)] (.tup [.c (.sym 5),.c (.sym 6)]),gp 38 [.c (.sym 5),.c (.lit (.int .i64 1))] (.r (.c (.lit (.bool false)))) eo38 (isinf_n1 (s:=s) (b:=b) hb) (by kernel_rfl) (by kernel_rfl),gp 38 [.c (.sym 5),.c (.lit (.int .i64 (-1)))] (.r (.c (.lit (.bool false)))) eo38 (isinf_nm (s:=s) (b:=b) hb) (by kernel_rfl) (by kernel_rfl),gs (aNRat (s:=s) (b:=b) hb) [.c (.sym 5)] (.r (.c (.sym 7))),gs (pRCmp (fq s b) q (RL_fq hb) (RL_sF h) (by decide)) [.c (.sym 7),.c (.sym 4)] (.r (.c (.sym 8))),gp 41 [.c (.sym 5)] (.r (.c (.sym 9))) eo41 (aNext (s:=s) (b:=b) hb hn) (by kernel_rfl) (by kernel_rfl),gp 37 [.c (.sym 9)] (.r (.c (.lit (.bool false)))) eo37 (aFin (s:=false) (b:=GW+1) (by decide) false (by decide)) (by kernel_rfl) (by kernel_rfl)]
    [gbInt .lss 3 .i64 (.sym 8) (.lit (.int .i64 0)) _ _ true (cmpR_lt hlt) (by kernel_rfl) (by kernel_rfl)] []
    Tryz.func11 eo11 100 [.row [.sym 0,.sym 1,.sym 2,.sym 3]] (.tup [.c (.lit (.flt 0)),.c (.lit (.int .i64 6))])
theorem nUp_ng(q:Rat)(h:ShortF q){s:Bool}{b:Nat}(hb:b≤GW)(hF:F64 q (sgw s b))(hlt:¬fq s b<q):SpecC Tryz.prog true 11 [F1 q] (.tup [.c (gx (.float .f64 (pz s b))),.c (gl (.int .i64 0))]) :=
  ev_sp (L:=rF q++[gr q,gx (.float .f64 (sgw s b)),ga,gr (fq s b),gx (.int .i64 (cmpR (fq s b) q)),gx (.float .f64 (pz s b))]) tys_ok mixed
    [gs (aFMayQ q h) [.row [.sym 0,.sym 1,.sym 2,.sym 3]] (.r (.c (.lit (.bool true)))),gs (aXRat q h) [.row [.sym 0,.sym 1,.sym 2,.sym 3]] (.r (.c (.sym 4))),gs (aF64 q hF ((RL_sF h).mono (by decide))) [.c (.sym 4)] (.tup [.c (.sym 5),.c (.sym 6)]),gp 38 [.c (.sym 5),.c (.lit (.int .i64 1))] (.r (.c (.lit (.bool false)))) eo38 (isinf_n1 (s:=s) (b:=b) hb) (by kernel_rfl) (by kernel_rfl),gp 38 [.c (.sym 5),.c (.lit (.int .i64 (-1)))] (.r (.c (.lit (.bool false)))) eo38 (isinf_nm (s:=s) (b:=b) hb) (by kernel_rfl) (by kernel_rfl),gs (aNRat (s:=s) (b:=b) hb) [.c (.sym 5)] (.r (.c (.sym 7))),gs (pRCmp (fq s b) q (RL_fq hb) (RL_sF h) (by decide)) [.c (.sym 7),.c (.sym 4)] (.r (.c (.sym 8))),gp 37 [.c (.sym 5)] (.r (.c (.lit (.bool true)))) eo37 (aFin (s:=s) (b:=b) (gw63 hb) true (gwT hb)) (by kernel_rfl) (by kernel_rfl)]
    [gbInt .lss 3 .i64 (.sym 8) (.lit (.int .i64 0)) _ _ false (cmpR_ge hlt) (by kernel_rfl) (by kernel_rfl),gb .add 28 (.c (.sym 5)) (.c (.lit (.flt 0))) (.sym 9) (fl_arith .add _ _ _ _ (add_zero (s:=s) (b:=b) hb)) (by kernel_rfl) (by kernel_rfl) (by kernel_rfl)] []
    Tryz.func11 eo11 100 [.row [.sym 0,.sym 1,.sym 2,.sym 3]] (.tup [.c (.sym 9),.c (.lit (.int .i64 0))])
def upV(r:Option Nat):FV:=match r with|some y=>.tup [.c (gx (.float .f64 y)),.c (gl (.int .i64 0))]|none=>.tup [.c (gl (.flt 0)),.c (gl (.int .i64 6))]
theorem nUp_ok(q:Rat)(h:ShortF q):SpecC Tryz.prog true 11 [F1 q] (upV (upQ q)):=by
 obtain⟨x,hF⟩:∃ x,F64 q x:=f64_ex q
 obtain⟨s,b,f2,rfl,hb,hf2,hr⟩:=up_prog hF
 by_cases hi:b=GW+1
 ·subst hi
  rw[show min (GW+1) GW=GW by omega] at hf2
  cases s
  ·by_cases hlt:fq false GW<q
   ·rw[if_pos hlt] at hf2
    rcases hr with⟨e,e2⟩|⟨t,d,e,hd,e2⟩
    ·rw[e]; exact nUp_pli q h hF hlt (by rw[←hf2,e2])
    ·rw[e2]; exact nUp_pl q h hF hlt (by rw[←hf2,e]) hd
   ·rw[if_neg hlt] at hf2
    rcases hr with⟨e,e2⟩|⟨t,d,e,hd,e2⟩
    ·exact absurd (hf2.symm.trans e2) (by unfold sgw GW; decide)
    ·rw[e2,←pz_eq (hf2.symm.trans e) (Nat.le_refl _) hd]; exact nUp_pg q h hF hlt
  ·by_cases hlt:fq true GW<q
   ·rw[if_pos hlt] at hf2
    rcases hr with⟨e,e2⟩|⟨t,d,e,hd,e2⟩
    ·rw[e]; exact nUp_mli q h hF hlt (by rw[←hf2,e2])
    ·rw[e2]; exact nUp_ml q h hF hlt (by rw[←hf2,e]) hd
   ·rw[if_neg hlt] at hf2
    rcases hr with⟨e,e2⟩|⟨t,d,e,hd,e2⟩
    ·exact absurd (hf2.symm.trans e2) (by unfold sgw GW; decide)
    ·rw[e2,←pz_eq (hf2.symm.trans e) (Nat.le_refl _) hd]; exact nUp_mg q h hF hlt
 ·have hb2:b≤GW:=by omega
  rw[Nat.min_eq_left hb2] at hf2
  by_cases hlt:fq s b<q
  ·rw[if_pos hlt] at hf2
   rcases hr with⟨e,e2⟩|⟨t,d,e,hd,e2⟩
   ·rw[e]; exact nUp_nli q h hb2 hF hlt (by rw[←hf2,e2])
   ·rw[e2]; exact nUp_nl q h hb2 hF hlt (by rw[←hf2,e]) hd
  ·rw[if_neg hlt] at hf2
   rcases hr with⟨e,e2⟩|⟨t,d,e,hd,e2⟩
   ·exfalso
    have:=hf2.symm.trans e2
    have h1:=sgw_mod (s:=s) (b:=b) (by omega)
    rw[this] at h1
    unfold GW at *; omega
   ·rw[e2,←pz_eq (hf2.symm.trans e) hb2 hd]; exact nUp_ng q h hb2 hF hlt
end Go.Proofs.YthklnbaddobieaaGreat
set_option linter.unusedSimpArgs false
namespace Tr
open Ieee
theorem upQ_form{q:Rat}{y:Nat}(h:upQ q=some y):∃ t d,d≤GW∧y=pz t d:=by
 have hg:=bel_GW q
 have hp:∀ b,b=pz false b:=fun b=>by unfold pz; split; assumption; rfl
 unfold upQ at h
 split at h
 ·cases h; exact⟨true,_,hg,rfl⟩
 ·split at h
  ·cases h; exact⟨false,_,hg,hp _⟩
  ·split at h
   ·cases h
   ·cases h; exact⟨false,_,by omega,hp _⟩
theorem sub_pz{t:Bool}{d:Nat}(hd:d≤GW):double.sub 0 (pz t d)=some (if pz t d=0 then 0 else pz t d ^^^ 9223372036854775808):=by
 unfold pz
 by_cases h:d=0
 ·rw[if_pos h,if_pos rfl]
  exact zero_sub (s:=false) (b:=0) (by decide)
 ·rw[if_neg h,if_neg (by unfold sgw; split<;>omega),zero_sub hd,if_neg h,sgw_xor (by omega)]
theorem upQ_sub{q:Rat}{y:Nat}(h:upQ q=some y):double.sub 0 y=some (if y=0 then 0 else y ^^^ 9223372036854775808):=by
 obtain⟨t,d,hd,rfl⟩:=upQ_form h
 exact sub_pz hd
end Tr
namespace Go.Proofs.YthklnbaddobieaaGreat
open Go.RowKit Tr
theorem aShort(q:Rat)(h:ShortF q):PureC Tryz.prog 58 [.agg #[.bool (decide (q.num<0)),.string (strN q.num.natAbs)]] (.bool true) :=
 fun w=>short_ok _ _ true (by have:=h.1; simp; omega) w
theorem aShortD(q:Rat)(h:ShortF q):PureC Tryz.prog 58 [.agg #[.bool false,.string (strN q.den)]] (.bool true) :=
 fun w=>short_ok _ _ true (by have:=h.2; simp; omega) w
theorem aFInt0:SpecC Tryz.prog false 104 [.c (gl (.int .i64 0))] (.r (F1 0)) :=
 spec_pure eo104 (vs:=[.int .i64 0]) (v:=encF ((0:Int):Rat)) (fun w=>FInt_any 0 (by decide) (by decide) w) (by kernel_rfl) (by kernel_rfl)
theorem aFRat(q:Rat)(h:ShortF q):SpecC Tryz.prog true 61 [F1 q] (.r (.c (gr q))) :=
 spec1 eo61 fun w A u hR _ hu=>by
  rw[(FR.val_ok (u:=encF q) (x:=.row (rF q)) (by kernel_rfl)).1 hu]
  refine(rat_any _ _ _ _ (den_str q) (Nat.lt_of_le_of_lt h.1 (by decide)) (Nat.lt_of_le_of_lt h.2 (by decide)) w).mono ?_
  rintro e w' ⟨v,h1,h2⟩
  rw[encF_divInt rfl] at h2
  exact⟨v,h1,h2.2 A (hR rfl),h2.1⟩
theorem aTold(q:Rat)(hq:RL q 137438953472):SpecC Tryz.prog true 60 [.c (gr q)] (.r (F1 q)) :=
 spec1 eo60 fun w A u hR _ hu=>(told_any q u A w hu hq).mono fun e w' ⟨h1,h2⟩=>⟨_,h1,(FR.val_ok (u:=encF q) (x:=.row (rF q)) (by kernel_rfl)).2 rfl,h2⟩
theorem shortF_zero:ShortF 0:=by decide +kernel
theorem shortF_neg{q:Rat}(h:ShortF q):ShortF (-q):=by
 unfold ShortF at *; rw[Rat.neg_num,Rat.neg_den,Int.natAbs_neg]; exact h
theorem negFns:FnsOk Tryz.prog [⟨103,Tryz.f103,2000⟩,⟨166,Tryz.f166,2000⟩,⟨209,Tryz.f209,2000⟩] :=
 (.cons (n:=2000) Tryz.func103 eo103 (.cons (n:=2000) Tryz.func166 eo166 (.cons (n:=2000) Tryz.func209 eo209 .nil)))
theorem aNeg0(q:Rat)(h:ShortF q)(h2:ShortF (0 - q)):SpecC Tryz.prog true 42 [F1 q] (.tup [F1 (0 - q),.c (gl (.int .i64 0))]) :=
 ev_spi (L:=rF q++rF 0++[gr 0,gr q,gr (0 - q)]++rF (0 - q)) tys_ok mixed
  ([gs aFInt0 [.c (.lit (.int .i64 0))] (.r (.row [.sym 4,.sym 5,.sym 6,.sym 7])),gs (aFMayQ q h) [.row [.sym 0,.sym 1,.sym 2,.sym 3]] (.r (.c (.lit (.bool true)))),gs (aFMayQ 0 shortF_zero) [.row [.sym 4,.sym 5,.sym 6,.sym 7]] (.r (.c (.lit (.bool true)))),gs (aFRat 0 shortF_zero) [.row [.sym 4,.sym 5,.sym 6,.sym 7]] (.r (.c (.sym 8))),gs (aFRat q h) [.row [.sym 0,.sym 1,.sym 2,.sym 3]] (.r (.c (.sym 9))),gs (aTold (0 - q) ((RL_sF h2).mono (by decide))) [.c (.sym 10)] (.r (.row [.sym 11,.sym 12,.sym 13,.sym 14])),gp 58 [.row [.sym 11,.sym 12]] (.r (.c (.lit (.bool true)))) eo58 (aShort (0 - q) h2) (by kernel_rfl) (by kernel_rfl),gp 58 [.row [.sym 13,.sym 14]] (.r (.c (.lit (.bool true)))) eo58 (aShortD (0 - q) h2) (by kernel_rfl) (by kernel_rfl)]
   ++ (List.range 80).map fun b=>gvSub 0 q (RL_sF shortF_zero) (RL_sF h) (by decide) b (.c (.sym 8)) (.c (.sym 9)) (.sym 10))
  [] [] negFns 1 3 Tryz.func42 eo42 2000 [.row [.sym 0,.sym 1,.sym 2,.sym 3]] (.tup [.row [.sym 11,.sym 12,.sym 13,.sym 14],.c (.lit (.int .i64 0))])
theorem aNeg(q:Rat)(h:ShortF q):SpecC Tryz.prog true 42 [F1 q] (.tup [F1 (-q),.c (gl (.int .i64 0))]):=by
 have e:(0:Rat) - q=-q:=by grind
 have:=aNeg0 q h (by rw[e]; exact shortF_neg h)
 rwa[e] at this
theorem nDown_ok(q:Rat)(h:ShortF q):SpecC Tryz.prog true 12 [F1 q] (upV (downQ q)):=by
  have hU:=nUp_ok (-q) (shortF_neg h)
  rw[down_up]
  cases hu:upQ (-q) with
  | none =>
    rw[hu] at hU
    exact ev_sp (L:=rF q++rF (-q)) tys_ok mixed
      [gs (aNeg q h) [.row [.sym 0,.sym 1,.sym 2,.sym 3]] (.tup [.row [.sym 4,.sym 5,.sym 6,.sym 7],.c (.lit (.int .i64 0))]),gs hU [.row [.sym 4,.sym 5,.sym 6,.sym 7]] (.tup [.c (.lit (.flt 0)),.c (.lit (.int .i64 6))])] [] []
      Tryz.func12 eo12 100 [.row [.sym 0,.sym 1,.sym 2,.sym 3]] (.tup [.c (.lit (.flt 0)),.c (.lit (.int .i64 6))])
  | some y =>
    rw[hu] at hU
    exact ev_sp (L:=rF q++rF (-q)++[gx (.float .f64 y),gx (.float .f64 (if y=0 then 0 else y ^^^ 9223372036854775808))]) tys_ok mixed
      [gs (aNeg q h) [.row [.sym 0,.sym 1,.sym 2,.sym 3]] (.tup [.row [.sym 4,.sym 5,.sym 6,.sym 7],.c (.lit (.int .i64 0))]),gs hU [.row [.sym 4,.sym 5,.sym 6,.sym 7]] (.tup [.c (.sym 8),.c (.lit (.int .i64 0))])]
      [gb .sub 28 (.c (.lit (.flt 0))) (.c (.sym 8)) (.sym 9) (fl_arith .sub _ 0 y _ (upQ_sub hu)) (by kernel_rfl) (by kernel_rfl) (by kernel_rfl)] []
      Tryz.func12 eo12 100 [.row [.sym 0,.sym 1,.sym 2,.sym 3]] (.tup [.c (.sym 9),.c (.lit (.int .i64 0))])
def FltA(q:Rat)(r:Option Nat):Prop:=∃ B,NearB (uq q) B∧r=(if B≤GW then some (pz (decide (q<0)) B) else none)
theorem near_uq0{B:Nat}(h:NearB (uq 0) B):B=0:=nearB_fun h near_zero
theorem nFloat_any(q:Rat)(h:ShortF q){r:Option Nat}(hr:FltA q r):SpecC Tryz.prog true 10 [F1 q] (upV r):=by
 obtain⟨B,hB,rfl⟩:=hr
 have hF:F64 q (if q=0 then 0 else sgw (decide (q.num<0)) (min B (GW+1))):=⟨B,hB,rfl⟩
 by_cases hz:q=0
 ·subst hz
  have hb:=near_uq0 hB
  subst hb
  rw[if_pos rfl] at hF
  rw[if_pos (Nat.zero_le _)]
  exact nFloat_ok 0 h (s:=false) (b:=0) hF (Nat.zero_le _)
 ·rw[if_neg hz,num_neg] at hF
  by_cases hg:B≤GW
  ·rw[Nat.min_eq_left (by omega)] at hF
   rw[if_pos hg]
   exact nFloat_ok q h hF hg
  ·rw[Nat.min_eq_right (by omega)] at hF
   rw[if_neg hg]
   exact nFloat_inf q h hF
theorem short_fq{s:Bool}{b:Nat}(hb:b≤GW):ShortF (fq s b):=by
 have h:=RL_fq (s:=s) hb
 have h2:(4294967296:Nat) ^ 66≤256 ^ 1024:=by decide +kernel
 have key:∀ n,(words n).length≤66→n<256 ^ 1024:=fun n hn=>by
  have h3:=lt_words n
  have h4:(4294967296:Nat) ^ (words n).length≤4294967296 ^ 66:=Nat.pow_le_pow_right (by decide) hn
  exact Nat.lt_of_lt_of_le h3 (Nat.le_trans h4 h2)
 exact shortF_lt (key _ h.1) (key _ h.2)
theorem aXFrac(q:Rat)(hq:RL q 137438953472)(h:ShortF q):SpecC Tryz.prog true 56 [.c (gr q)] (.tup [F1 q,.c (gl (.int .i64 0))]) :=
 spec1 eo56 fun w A u hR _ hu=>(XFrac_any q u A w hu hq).mono fun e w' ⟨h1,h2⟩=>⟨_,h1,by
  refine(FV.val_ok (u:=.tuple #[encF q,.int .i64 0]) (by kernel_rfl)).2 ?_
  rw[outF,outC,if_pos h,if_pos h],h2⟩
theorem nExact_ok{s:Bool}{b:Nat}(hb:b≤GW):SpecC Tryz.prog true 21 [.c (gx (.float .f64 (sgw s b)))] (.tup [F1 (fq s b),.c (gl (.int .i64 0))]) :=
  ev_sp (L:=[gx (.float .f64 (sgw s b)),gr (fq s b)]++rF (fq s b)) tys_ok mixed
    [gp 37 [.c (.sym 0)] (.r (.c (.lit (.bool true)))) eo37 (aFin (s:=s) (b:=b) (gw63 hb) true (gwT hb)) (by kernel_rfl) (by kernel_rfl),gs (aNRat (s:=s) hb) [.c (.sym 0)] (.r (.c (.sym 1))),gs (aXFrac (fq s b) ((RL_fq hb).mono (by decide)) (short_fq hb)) [.c (.sym 1)] (.tup [.row [.sym 2,.sym 3,.sym 4,.sym 5],.c (.lit (.int .i64 0))])] [] []
    Tryz.func21 eo21 100 [.c (.sym 0)] (.tup [.row [.sym 2,.sym 3,.sym 4,.sym 5],.c (.lit (.int .i64 0))])
theorem nExact_bad{s:Bool}{b:Nat}(hb:b<9223372036854775808)(h:¬b≤GW):SpecC Tryz.prog true 21 [.c (gx (.float .f64 (sgw s b)))] (.tup [.row zFG,.c (gl (.int .i64 6))]) :=
 ev_sp (L:=[gx (.float .f64 (sgw s b))]) tys_ok mixed
  [gp 37 [.c (.sym 0)] (.r (.c (.lit (.bool false)))) eo37 (aFin (s:=s) (b:=b) hb false (by simp[h])) (by kernel_rfl) (by kernel_rfl)] [] []
  Tryz.func21 eo21 100 [.c (.sym 0)] (.tup [.row zFA,.c (.lit (.int .i64 6))])
theorem aFCmp(x y:Rat)(hx:ShortF x)(hy:ShortF y):SpecC Tryz.prog true 23 [F1 x,F1 y] (.tup [.c (gx (.int .i64 (cmpR x y))),.c (gl (.int .i64 0))]) :=
  ev_sp (L:=rF x++rF y++[gr x,gr y,gx (.int .i64 (cmpR x y))]) tys_ok mixed
    [gs (aFMayQ x hx) [.row [.sym 0,.sym 1,.sym 2,.sym 3]] (.r (.c (.lit (.bool true)))),gs (aFMayQ y hy) [.row [.sym 4,.sym 5,.sym 6,.sym 7]] (.r (.c (.lit (.bool true)))),gs (aFRat x hx) [.row [.sym 0,.sym 1,.sym 2,.sym 3]] (.r (.c (.sym 8))),gs (aFRat y hy) [.row [.sym 4,.sym 5,.sym 6,.sym 7]] (.r (.c (.sym 9))),gs (pRCmp x y (RL_sF hx) (RL_sF hy) (by decide)) [.c (.sym 8),.c (.sym 9)] (.r (.c (.sym 10)))] [] []
    Tryz.func23 eo23 100 [.row [.sym 0,.sym 1,.sym 2,.sym 3],.row [.sym 4,.sym 5,.sym 6,.sym 7]] (.tup [.c (.sym 10),.c (.lit (.int .i64 0))])
end Go.Proofs.YthklnbaddobieaaGreat
namespace Go.Proofs.YthklnbaddobieaaGreat
open Go.RowKit Go.Shelf
attribute [local go_sem] Oper.semAt_some
def upto{α:Type}(f:Nat→α)(k:Nat):List α:=(List.range k).map f
theorem upto_succ{α:Type}(f:Nat→α)(k:Nat):upto f (k+1)=upto f k++[f k]:=by simp[upto,List.range_succ]
theorem upto_length{α:Type}(f:Nat→α)(k:Nat):(upto f k).length=k:=by simp[upto]
def Holds1{α:Type}(enc:α→Value)(n₀:Nat)(W:World)(sv:Value)(f:Nat→α)(len:Nat):Prop :=
 (sv=.slice none 0 0∧len=0)∨∃ b off cap,sv=.slice (some ⟨b,off,none⟩) len cap∧b<n₀∧∀ j,j<len→W.cell? ⟨b,off+j,none⟩=some (enc (f j))
theorem Holds1.below{α:Type}{enc:α→Value}{n₀:Nat}{A B:World}(h:Below n₀ A B){sv:Value}{f:Nat→α}{len:Nat}:Holds1 enc n₀ A sv f len→Holds1 enc n₀ B sv f len
 | .inl e=>.inl e
 | .inr ⟨b,off,cap,e,hb,hc⟩=>.inr ⟨b,off,cap,e,hb,fun j hj=>(h.cell (p:=⟨b,off+j,none⟩) hb).trans (hc j hj)⟩
theorem fence_wide_fn(f:FuncId):Fence.wide.fn f:=trivial
theorem leave_marks{P:Program}{fn:Func}{R:Ending→World→Prop}{tmps:Array Value}{D:Nat}{w:World}{v:Value}(hK:w.heap[D]?=some (.deferred (some [])))
  (hr:(results fn tmps).run P (w.putObj D (.deferred none))=.ok v (w.putObj D (.deferred none))) (hR:R (.returned v) (w.putObj D (.deferred none))) :
  bodyPostM Fence.wide 3 P fn R .ret { tmps:=tmps,defers:=[{ target:=.collected D,args:=#[] }] } w :=
 ⟨by simp,.inl ⟨_,_,rfl,run_takeDeferred hK,⟨_,hr,hR⟩⟩⟩
theorem below_putObj{B:Nat}{a w:World}(h:Below B a w){D:Nat}(hD:B≤D)(o:Obj):Below B a (w.putObj D o) :=
 h.trans ⟨rfl,rfl,rfl,by simp[World.putObj],fun k hk=>World.putObj_heap_other (by omega)⟩
end Go.Proofs.YthklnbaddobieaaGreat
namespace Go.Proofs.YthklnbaddobieaaGreat
open Go.RowKit Go.Shelf
attribute [local go_sem] Oper.semAt_some
end Go.Proofs.YthklnbaddobieaaGreat
