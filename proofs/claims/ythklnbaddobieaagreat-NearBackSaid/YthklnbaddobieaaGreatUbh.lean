/- Laws for the walk. -/
import Derived.Test.YthklnbaddobieaaGreatUbg
set_option linter.unusedVariables false
set_option maxHeartbeats 4000000
set_option linter.unusedSimpArgs false
namespace Go.Proofs.YthklnbaddobieaaGreat
open Go.RowKit Go.Shelf Tr
def bkArgs:List AR:=[.c (.sym 0),.row [.sym 1,.sym 2,.sym 3,.sym 4]]
noncomputable def bkX{L:List GF}(C:List (GC Tryz.prog L true))(B:List (GB Tryz.prog L))(O:List (GO Tryz.prog L)):Cx:=upN (gcx tys true L C B O) betF 1 3
noncomputable def bkY{L:List GF}(C:List (GC Tryz.prog L true))(B:List (GB Tryz.prog L))(O:List (GO Tryz.prog L))(d:Deferred):Cx:={ gcx tys true L C B O with dfs:=[d] }
noncomputable def bkS{L:List GF}(C:List (GC Tryz.prog L true))(B:List (GB Tryz.prog L))(O:List (GO Tryz.prog L)):AS:=stOf (evC (bkX C B O) 2000 backS.1 (enter backF [] bkArgs))
theorem bkX_ok{L:List GF}(C:List (GC Tryz.prog L true))(B:List (GB Tryz.prog L))(O:List (GO Tryz.prog L)):CxOk Tryz.prog (gT L) (bkX C B O):=upN_ok (gcx_ok tys_ok _ _ _) mixed rfl betF_ok 1 3
theorem bkY_ok{L:List GF}(C:List (GC Tryz.prog L true))(B:List (GB Tryz.prog L))(O:List (GO Tryz.prog L))(d:Deferred):CxOk Tryz.prog (gT L) (bkY C B O d) :=
 let h:=gcx_ok (P:=Tryz.prog) (hp:=true) (L:=L) tys_ok C B O
 ⟨h.table,h.tys,h.calls,h.enters,h.bins,h.others,no_inl _ rfl⟩
theorem back_leaf{L:List GF}(C:List (GC Tryz.prog L true))(B:List (GB Tryz.prog L))(O:List (GO Tryz.prog L)){x0:GF}{xc:List GF}(ha:arsK L bkArgs=some [.c x0,.row xc]){b1 b2 bk i1 i2:Nat}{r q:Int}(hr:r.natAbs≤GW)(hq:q.natAbs≤GW)
  (t1:∀ v w A,gT L i1 v w A→v=.float .f64 (rkW r)) (t2:∀ v w A,gT L i2 v w A→v=.float .f64 (rkW q)) {N:Nat} (hN:rkN r q=N) (hN2:N≤2)
  (h1:endsN (evC (bkX C B O) 2000 backS.1 (enter backF [] bkArgs))=true)
  (hsz:decide (156≤(bkS C B O).tmps.length)=true) (hg:opv (fun t=>(bkS C B O).tmps.getD t .undf) backG=.r (.c (.fn 55 [] [b1,b2]))) (h28:opv (fun t=>(bkS C B O).tmps.getD t .undf) (.tmp 28)=.r (.c (.own bk 0)))
  (e1:(bkS C B O).blocks[b1]?=some (.live ⟨[.sym i1],28,none⟩)) (e2:(bkS C B O).blocks[b2]?=some (.live ⟨[.sym i2],28,none⟩)) (ek:(bkS C B O).blocks[bk]?=some (.live ⟨[.lit (.int .i64 0)],3,none⟩))
  (h2:∀ d,endsL (bkY C B O d) backF (.bool true) (evCL (bkY C B O d) 2000 backS.2.2 ((bkS C B O).put none ⟨.junk,[(bk,.live ⟨[.lit (.int .i64 (N:Nat))],3,none⟩)]⟩))=true) :
  SpecC Tryz.prog true 5 [.c x0,.row xc] (B1 true) :=
 ⟨eo5,fun w A vs hR hA hu=>by
  refine(ev_rgB (bkX_ok C B O) mixed (upN_cuts rfl _ _ _) ((upN_dfs _ _ _ _).trans rfl) (cx2:=bkY C B O) (bkY_ok C B O) (fun d=>upN_hp _ _ _ _) (fun d=>upN_ints _ _ _ _) (fun d=>rfl) (fun d=>rfl) (fn:=backF) Tryz.func5 back_body back_split
   (bs:=[]) (l:=.bool true) 2000 (by rfl) (endsN_ok h1) (bk:=bk) (pb:=⟨[.lit (.int .i64 (N:Nat))],3,none⟩) (us0:=[.int .i64 (N:Nat)]) ek rfl (fun d=>rfl) (fun σ W A=>⟨rfl,trivial⟩) h2 ?_ ⟨fun _=>none,fun _=>0⟩ w A vs (fun h=>hR rfl) hA ((arsK_ok ha).2 hu) (fun b ab h=>by simp at h) (fun b _=>rfl)).mono fun r w' h=>⟨_,h.1,rfl,h.2⟩
  intro A0 w0 σ a w R Q n hn hQ
  exact back_range R (of_decide_eq_true hsz) hg h28 e1 e2 ek hr hq t1 t2 hN hN2 hn hQ⟩
end Go.Proofs.YthklnbaddobieaaGreat
set_option linter.unusedSimpArgs false
namespace Go.Proofs.YthklnbaddobieaaGreat
open Go.RowKit Go.Shelf Tr
theorem nExact_rk{r:Int}(h:r.natAbs≤GW):SpecC Tryz.prog true 21 [.c (gx (.float .f64 (rkW r)))] (.tup [F1 (fr r),.c (gl (.int .i64 0))]):=by
 rw[rkW_sgw]; exact nExact_ok h
theorem ord_eq{r q:Int}(hr:r.natAbs≤GW)(hq:q.natAbs≤GW)(b:Bool)(hb:b=decide (r=q)):(Ieee.double.order (rkW r) (rkW q) == some .eq)=b:=by
 rw[rkW_sgw q,ord_rk hr hq,rkS_dec,hb]
 by_cases h:r=q
 ·rw[Int.compare_eq_eq.2 h,decide_eq_true h]; rfl
 ·rw[decide_eq_false h]
  rcases Int.lt_or_gt_of_ne h with k|k
  ·rw[Int.compare_eq_lt.2 k]; rfl
  ·rw[Int.compare_eq_gt.2 k]; rfl
theorem cmpR_self(q:Rat):cmpR q q=0:=by unfold cmpR; rw[if_neg Rat.lt_irrefl,if_pos rfl]
theorem cmpR_m{x y:Rat}(h:x<y):cmpR x y=-1:=by unfold cmpR; rw[if_pos h]
theorem cmpR_p{x y:Rat}(h:y<x):cmpR x y=1:=by
 unfold cmpR
 rw[if_neg (fun k=>Rat.lt_irrefl (rlt_le h (Rat.le_of_lt k))),if_neg (fun e=>by rw[e] at h; exact Rat.lt_irrefl h)]
theorem rkN_one(r:Int):rkN r r=1:=by unfold rkN; omega
theorem rkN_two(r:Int):rkN r (r+1)=2:=by unfold rkN; omega
def gbFnNilB{L:List GF}(f:FuncId)(a b:List Nat):GB Tryz.prog L :=
 ⟨{ op:=.eql,t:=39,x:=.c (.fn f a b),y:=.c (.lit .nilf),res:=.lit (.bool false) },fun σ w A vx vy xo yo h1 h2=>by
  obtain⟨us,vs,rfl,_,_⟩:=(show ∃ us vs:List Value,vx=.func (.func f) us.toArray vs.toArray∧ptrs σ a us∧ptrs σ b vs from h1)
  cases(show vy=.nilFunc from h2)
  exact⟨.bool false,by kernel_rfl,rfl⟩⟩
theorem short_fr{r:Int}(h:r.natAbs≤GW):ShortF (fr r):=short_fq h
theorem bk_d1_F(s:Bool)(b:Nat)(hf:b≤GW)(q:Rat)(h:ShortF q)(hl:¬((200:Int)<((rwQ q).s1.size:Int)∨(200:Int)<((rwQ q).s2.size:Int)))(r:Int)(hr:r.natAbs≤GW)(he:fr r=q)(pu:SpecC Tryz.prog true 11 [F1 q] (.tup [.c (gx (.float .f64 (rkW r))),.c (gl (.int .i64 0))]))(pd:SpecC Tryz.prog true 12 [F1 q] (.tup [.c (gx (.float .f64 (rkW r))),.c (gl (.int .i64 0))]))(pa:SpecC Tryz.prog true 10 [F1 q] (.tup [.c (gx (.float .f64 (rkW r))),.c (gl (.int .i64 0))])):SpecC Tryz.prog true 5 [.c (gx (.float .f64 (sgw s b))),.row (rF q)] (B1 true):=by
  have xe:=nExact_rk hr
  rw[he] at xe
  have xc:=aFCmp q q h h
  rw[cmpR_self] at xc
  let L:List GF:=(gx (.float .f64 (sgw s b)) :: rF q++rF (fq s b)++[gx (.float .f64 (pz s b)),gx (.int .u64 (pz s b:Nat))]++[gx (.float .f64 (rkW r))])
  let C : List (GC Tryz.prog L true) := [gs (nExact_ok (s := s) (b := b) hf) [.c (.sym 0)] (.tup [.row [.sym 5,.sym 6,.sym 7,.sym 8],.c (.lit (.int .i64 0))]),gs (bk_fl s hf) [.row [.sym 5,.sym 6,.sym 7,.sym 8]] (.tup [.c (.sym 9),.c (.lit (.int .i64 0))]),gs (bk_up s hf) [.row [.sym 5,.sym 6,.sym 7,.sym 8]] (.tup [.c (.sym 9),.c (.lit (.int .i64 0))]),gs (bk_dn s hf) [.row [.sym 5,.sym 6,.sym 7,.sym 8]] (.tup [.c (.sym 9),.c (.lit (.int .i64 0))]),gs (lLong (rwQ q) 200 false ⟨fun e=>(by cases e),fun k=>absurd k hl⟩) [.c (.lit (.int .i64 200)),.row [.sym 1,.sym 2,.sym 3,.sym 4]] (.r (.c (.lit (.bool false)))),gs (aFMayQ q h) [.row [.sym 1,.sym 2,.sym 3,.sym 4]] (.r (.c (.lit (.bool true)))),gs lKnown [] (.r (.c (.lit (.bool true)))),gs pu [.row [.sym 1,.sym 2,.sym 3,.sym 4]] (.tup [.c (.sym 11),.c (.lit (.int .i64 0))]),gs pd [.row [.sym 1,.sym 2,.sym 3,.sym 4]] (.tup [.c (.sym 11),.c (.lit (.int .i64 0))]),gs pa [.row [.sym 1,.sym 2,.sym 3,.sym 4]] (.tup [.c (.sym 11),.c (.lit (.int .i64 0))]),gs xe [.c (.sym 11)] (.tup [.row [.sym 1,.sym 2,.sym 3,.sym 4],.c (.lit (.int .i64 0))]),gs xc [.row [.sym 1,.sym 2,.sym 3,.sym 4],.row [.sym 1,.sym 2,.sym 3,.sym 4]] (.tup [.c (.lit (.int .i64 0)),.c (.lit (.int .i64 0))])]
  let B:List (GB Tryz.prog L):=[gb .add 28 (.c (.sym 0)) (.c (.lit (.flt 0))) (.sym 9) (fl_arith .add _ _ _ _ (bk_add s hf)) (by kernel_rfl) (by kernel_rfl) (by kernel_rfl),gbInt .neq 41 .u64 (.sym 10) (.sym 10) (pz s b:Nat) (pz s b:Nat) false (bk_neq _) (by kernel_rfl) (by kernel_rfl),gb .eql 28 (.c (.sym 11)) (.c (.sym 11)) (.lit (.bool true)) (fl_eql _ _ _ true (ord_eq (r:=r) (q:=r) hr hr true (by rw[decide_eq_true rfl]))) (by kernel_rfl) (by kernel_rfl) (by kernel_rfl),gb .eql 4 (.c (.lit (.bool true))) (.c (.lit (.bool true))) (.lit (.bool true)) (Tr.bool_eql Tryz.underlying4 true true true rfl) (by kernel_rfl) (by kernel_rfl) (by kernel_rfl),gbFnNilB 55 [] [145,146]]
  let O:List (GO Tryz.prog L):=[goExt 20 [.c (.sym 9)] (.c (.sym 10)) (fun w=>bits_of (pz s b) w) (by kernel_rfl) (by kernel_rfl)]
  exact back_leaf (L:=L) C B O (b1:=145) (b2:=146) (bk:=141) (i1:=11) (i2:=11) (r:=r) (q:=r) (N:=1) (by kernel_rfl) hr hr (fun v w A e=>e) (fun v w A e=>e) (rkN_one r) (by decide)
    (by kernel_rfl) (by kernel_rfl) (by kernel_rfl) (by kernel_rfl) (by kernel_rfl) (by kernel_rfl) (by kernel_rfl) (by intro d; kernel_rfl)
theorem bk_d2d_F(s:Bool)(b:Nat)(hf:b≤GW)(q:Rat)(h:ShortF q)(hl:¬((200:Int)<((rwQ q).s1.size:Int)∨(200:Int)<((rwQ q).s2.size:Int)))(r:Int)(hr:r.natAbs≤GW)(hr2:(r+1).natAbs≤GW)(hlo:fr r<q)(hhi:q<fr (r+1))(pu:SpecC Tryz.prog true 11 [F1 q] (.tup [.c (gx (.float .f64 (rkW (r+1)))),.c (gl (.int .i64 0))]))(pd:SpecC Tryz.prog true 12 [F1 q] (.tup [.c (gx (.float .f64 (rkW r))),.c (gl (.int .i64 0))]))(pa:SpecC Tryz.prog true 10 [F1 q] (.tup [.c (gx (.float .f64 (rkW r))),.c (gl (.int .i64 0))])):SpecC Tryz.prog true 5 [.c (gx (.float .f64 (sgw s b))),.row (rF q)] (B1 true):=by
  have xd:=nExact_rk hr
  have xu:=nExact_rk hr2
  have cd:=aFCmp (fr r) q (short_fr hr) h
  have cu:=aFCmp (fr (r+1)) q (short_fr hr2) h
  rw[cmpR_m hlo] at cd
  rw[cmpR_p hhi] at cu
  let L:List GF:=(gx (.float .f64 (sgw s b)) :: rF q++rF (fq s b)++[gx (.float .f64 (pz s b)),gx (.int .u64 (pz s b:Nat))]++[gx (.float .f64 (rkW r)),gx (.float .f64 (rkW (r+1)))]++rF (fr r)++rF (fr (r+1)))
  let C : List (GC Tryz.prog L true) := [gs (nExact_ok (s := s) (b := b) hf) [.c (.sym 0)] (.tup [.row [.sym 5,.sym 6,.sym 7,.sym 8],.c (.lit (.int .i64 0))]),gs (bk_fl s hf) [.row [.sym 5,.sym 6,.sym 7,.sym 8]] (.tup [.c (.sym 9),.c (.lit (.int .i64 0))]),gs (bk_up s hf) [.row [.sym 5,.sym 6,.sym 7,.sym 8]] (.tup [.c (.sym 9),.c (.lit (.int .i64 0))]),gs (bk_dn s hf) [.row [.sym 5,.sym 6,.sym 7,.sym 8]] (.tup [.c (.sym 9),.c (.lit (.int .i64 0))]),gs (lLong (rwQ q) 200 false ⟨fun e=>(by cases e),fun k=>absurd k hl⟩) [.c (.lit (.int .i64 200)),.row [.sym 1,.sym 2,.sym 3,.sym 4]] (.r (.c (.lit (.bool false)))),gs (aFMayQ q h) [.row [.sym 1,.sym 2,.sym 3,.sym 4]] (.r (.c (.lit (.bool true)))),gs lKnown [] (.r (.c (.lit (.bool true)))),gs pu [.row [.sym 1,.sym 2,.sym 3,.sym 4]] (.tup [.c (.sym 12),.c (.lit (.int .i64 0))]),gs pd [.row [.sym 1,.sym 2,.sym 3,.sym 4]] (.tup [.c (.sym 11),.c (.lit (.int .i64 0))]),gs pa [.row [.sym 1,.sym 2,.sym 3,.sym 4]] (.tup [.c (.sym 11),.c (.lit (.int .i64 0))]),gs xd [.c (.sym 11)] (.tup [.row [.sym 13,.sym 14,.sym 15,.sym 16],.c (.lit (.int .i64 0))]),gs xu [.c (.sym 12)] (.tup [.row [.sym 17,.sym 18,.sym 19,.sym 20],.c (.lit (.int .i64 0))]),gs cd [.row [.sym 13,.sym 14,.sym 15,.sym 16],.row [.sym 1,.sym 2,.sym 3,.sym 4]] (.tup [.c (.lit (.int .i64 (-1))),.c (.lit (.int .i64 0))]),gs cu [.row [.sym 17,.sym 18,.sym 19,.sym 20],.row [.sym 1,.sym 2,.sym 3,.sym 4]] (.tup [.c (.lit (.int .i64 1)),.c (.lit (.int .i64 0))])]
  let B:List (GB Tryz.prog L):=[gb .add 28 (.c (.sym 0)) (.c (.lit (.flt 0))) (.sym 9) (fl_arith .add _ _ _ _ (bk_add s hf)) (by kernel_rfl) (by kernel_rfl) (by kernel_rfl),gbInt .neq 41 .u64 (.sym 10) (.sym 10) (pz s b:Nat) (pz s b:Nat) false (bk_neq _) (by kernel_rfl) (by kernel_rfl),gb .eql 28 (.c (.sym 12)) (.c (.sym 11)) (.lit (.bool false)) (fl_eql _ _ _ false (ord_eq (r:=(r+1)) (q:=r) hr2 hr false (by rw[decide_eq_false (by omega)]))) (by kernel_rfl) (by kernel_rfl) (by kernel_rfl),gb .eql 4 (.c (.lit (.bool false))) (.c (.lit (.bool false))) (.lit (.bool true)) (Tr.bool_eql Tryz.underlying4 false false true rfl) (by kernel_rfl) (by kernel_rfl) (by kernel_rfl),gb .eql 28 (.c (.sym 11)) (.c (.sym 12)) (.lit (.bool false)) (fl_eql _ _ _ false (ord_eq (r:=r) (q:=(r+1)) hr hr2 false (by rw[decide_eq_false (by omega)]))) (by kernel_rfl) (by kernel_rfl) (by kernel_rfl),gb .eql 28 (.c (.sym 11)) (.c (.sym 11)) (.lit (.bool true)) (fl_eql _ _ _ true (ord_eq (r:=r) (q:=r) hr hr true (by rw[decide_eq_true rfl]))) (by kernel_rfl) (by kernel_rfl) (by kernel_rfl),gbFnNilB 55 [] [145,146]]
  let O:List (GO Tryz.prog L):=[goExt 20 [.c (.sym 9)] (.c (.sym 10)) (fun w=>bits_of (pz s b) w) (by kernel_rfl) (by kernel_rfl)]
  exact back_leaf (L:=L) C B O (b1:=145) (b2:=146) (bk:=141) (i1:=11) (i2:=12) (r:=r) (q:=(r+1)) (N:=2) (by kernel_rfl) hr hr2 (fun v w A e=>e) (fun v w A e=>e) (rkN_two r) (by decide)
    (by kernel_rfl) (by kernel_rfl) (by kernel_rfl) (by kernel_rfl) (by kernel_rfl) (by kernel_rfl) (by kernel_rfl) (by intro d; kernel_rfl)
theorem bk_d2u_F(s:Bool)(b:Nat)(hf:b≤GW)(q:Rat)(h:ShortF q)(hl:¬((200:Int)<((rwQ q).s1.size:Int)∨(200:Int)<((rwQ q).s2.size:Int)))(r:Int)(hr:r.natAbs≤GW)(hr2:(r+1).natAbs≤GW)(hlo:fr r<q)(hhi:q<fr (r+1))(pu:SpecC Tryz.prog true 11 [F1 q] (.tup [.c (gx (.float .f64 (rkW (r+1)))),.c (gl (.int .i64 0))]))(pd:SpecC Tryz.prog true 12 [F1 q] (.tup [.c (gx (.float .f64 (rkW r))),.c (gl (.int .i64 0))]))(pa:SpecC Tryz.prog true 10 [F1 q] (.tup [.c (gx (.float .f64 (rkW (r+1)))),.c (gl (.int .i64 0))])):SpecC Tryz.prog true 5 [.c (gx (.float .f64 (sgw s b))),.row (rF q)] (B1 true):=by
  have xd:=nExact_rk hr
  have xu:=nExact_rk hr2
  have cd:=aFCmp (fr r) q (short_fr hr) h
  have cu:=aFCmp (fr (r+1)) q (short_fr hr2) h
  rw[cmpR_m hlo] at cd
  rw[cmpR_p hhi] at cu
  let L:List GF:=(gx (.float .f64 (sgw s b)) :: rF q++rF (fq s b)++[gx (.float .f64 (pz s b)),gx (.int .u64 (pz s b:Nat))]++[gx (.float .f64 (rkW r)),gx (.float .f64 (rkW (r+1)))]++rF (fr r)++rF (fr (r+1)))
  let C : List (GC Tryz.prog L true) := [gs (nExact_ok (s := s) (b := b) hf) [.c (.sym 0)] (.tup [.row [.sym 5,.sym 6,.sym 7,.sym 8],.c (.lit (.int .i64 0))]),gs (bk_fl s hf) [.row [.sym 5,.sym 6,.sym 7,.sym 8]] (.tup [.c (.sym 9),.c (.lit (.int .i64 0))]),gs (bk_up s hf) [.row [.sym 5,.sym 6,.sym 7,.sym 8]] (.tup [.c (.sym 9),.c (.lit (.int .i64 0))]),gs (bk_dn s hf) [.row [.sym 5,.sym 6,.sym 7,.sym 8]] (.tup [.c (.sym 9),.c (.lit (.int .i64 0))]),gs (lLong (rwQ q) 200 false ⟨fun e=>(by cases e),fun k=>absurd k hl⟩) [.c (.lit (.int .i64 200)),.row [.sym 1,.sym 2,.sym 3,.sym 4]] (.r (.c (.lit (.bool false)))),gs (aFMayQ q h) [.row [.sym 1,.sym 2,.sym 3,.sym 4]] (.r (.c (.lit (.bool true)))),gs lKnown [] (.r (.c (.lit (.bool true)))),gs pu [.row [.sym 1,.sym 2,.sym 3,.sym 4]] (.tup [.c (.sym 12),.c (.lit (.int .i64 0))]),gs pd [.row [.sym 1,.sym 2,.sym 3,.sym 4]] (.tup [.c (.sym 11),.c (.lit (.int .i64 0))]),gs pa [.row [.sym 1,.sym 2,.sym 3,.sym 4]] (.tup [.c (.sym 12),.c (.lit (.int .i64 0))]),gs xd [.c (.sym 11)] (.tup [.row [.sym 13,.sym 14,.sym 15,.sym 16],.c (.lit (.int .i64 0))]),gs xu [.c (.sym 12)] (.tup [.row [.sym 17,.sym 18,.sym 19,.sym 20],.c (.lit (.int .i64 0))]),gs cd [.row [.sym 13,.sym 14,.sym 15,.sym 16],.row [.sym 1,.sym 2,.sym 3,.sym 4]] (.tup [.c (.lit (.int .i64 (-1))),.c (.lit (.int .i64 0))]),gs cu [.row [.sym 17,.sym 18,.sym 19,.sym 20],.row [.sym 1,.sym 2,.sym 3,.sym 4]] (.tup [.c (.lit (.int .i64 1)),.c (.lit (.int .i64 0))])]
  let B:List (GB Tryz.prog L):=[gb .add 28 (.c (.sym 0)) (.c (.lit (.flt 0))) (.sym 9) (fl_arith .add _ _ _ _ (bk_add s hf)) (by kernel_rfl) (by kernel_rfl) (by kernel_rfl),gbInt .neq 41 .u64 (.sym 10) (.sym 10) (pz s b:Nat) (pz s b:Nat) false (bk_neq _) (by kernel_rfl) (by kernel_rfl),gb .eql 28 (.c (.sym 12)) (.c (.sym 11)) (.lit (.bool false)) (fl_eql _ _ _ false (ord_eq (r:=(r+1)) (q:=r) hr2 hr false (by rw[decide_eq_false (by omega)]))) (by kernel_rfl) (by kernel_rfl) (by kernel_rfl),gb .eql 4 (.c (.lit (.bool false))) (.c (.lit (.bool false))) (.lit (.bool true)) (Tr.bool_eql Tryz.underlying4 false false true rfl) (by kernel_rfl) (by kernel_rfl) (by kernel_rfl),gb .eql 28 (.c (.sym 12)) (.c (.sym 12)) (.lit (.bool true)) (fl_eql _ _ _ true (ord_eq (r:=(r+1)) (q:=(r+1)) hr2 hr2 true (by rw[decide_eq_true rfl]))) (by kernel_rfl) (by kernel_rfl) (by kernel_rfl),gbFnNilB 55 [] [145,146]]
  let O:List (GO Tryz.prog L):=[goExt 20 [.c (.sym 9)] (.c (.sym 10)) (fun w=>bits_of (pz s b) w) (by kernel_rfl) (by kernel_rfl)]
  exact back_leaf (L:=L) C B O (b1:=145) (b2:=146) (bk:=141) (i1:=11) (i2:=12) (r:=r) (q:=(r+1)) (N:=2) (by kernel_rfl) hr hr2 (fun v w A e=>e) (fun v w A e=>e) (rkN_two r) (by decide)
    (by kernel_rfl) (by kernel_rfl) (by kernel_rfl) (by kernel_rfl) (by kernel_rfl) (by kernel_rfl) (by kernel_rfl) (by intro d; kernel_rfl)
theorem bk_d1_N(s:Bool)(b:Nat)(hb:b<9223372036854775808)(hf:¬b≤GW)(q:Rat)(h:ShortF q)(hl:¬((200:Int)<((rwQ q).s1.size:Int)∨(200:Int)<((rwQ q).s2.size:Int)))(r:Int)(hr:r.natAbs≤GW)(he:fr r=q)(pu:SpecC Tryz.prog true 11 [F1 q] (.tup [.c (gx (.float .f64 (rkW r))),.c (gl (.int .i64 0))]))(pd:SpecC Tryz.prog true 12 [F1 q] (.tup [.c (gx (.float .f64 (rkW r))),.c (gl (.int .i64 0))]))(pa:SpecC Tryz.prog true 10 [F1 q] (.tup [.c (gx (.float .f64 (rkW r))),.c (gl (.int .i64 0))])):SpecC Tryz.prog true 5 [.c (gx (.float .f64 (sgw s b))),.row (rF q)] (B1 true):=by
  have xe:=nExact_rk hr
  rw[he] at xe
  have xc:=aFCmp q q h h
  rw[cmpR_self] at xc
  let L:List GF:=(gx (.float .f64 (sgw s b)) :: rF q++[gx (.float .f64 (rkW r))])
  let C : List (GC Tryz.prog L true) := [gs (nExact_bad (s := s) (b := b) hb hf) [.c (.sym 0)] (.tup [.row [.lit (.bool false),.lit .str0,.lit (.bool false),.lit .str0],.c (.lit (.int .i64 6))]),gs (lLong (rwQ q) 200 false ⟨fun e=>(by cases e),fun k=>absurd k hl⟩) [.c (.lit (.int .i64 200)),.row [.sym 1,.sym 2,.sym 3,.sym 4]] (.r (.c (.lit (.bool false)))),gs (aFMayQ q h) [.row [.sym 1,.sym 2,.sym 3,.sym 4]] (.r (.c (.lit (.bool true)))),gs lKnown [] (.r (.c (.lit (.bool true)))),gs pu [.row [.sym 1,.sym 2,.sym 3,.sym 4]] (.tup [.c (.sym 5),.c (.lit (.int .i64 0))]),gs pd [.row [.sym 1,.sym 2,.sym 3,.sym 4]] (.tup [.c (.sym 5),.c (.lit (.int .i64 0))]),gs pa [.row [.sym 1,.sym 2,.sym 3,.sym 4]] (.tup [.c (.sym 5),.c (.lit (.int .i64 0))]),gs xe [.c (.sym 5)] (.tup [.row [.sym 1,.sym 2,.sym 3,.sym 4],.c (.lit (.int .i64 0))]),gs xc [.row [.sym 1,.sym 2,.sym 3,.sym 4],.row [.sym 1,.sym 2,.sym 3,.sym 4]] (.tup [.c (.lit (.int .i64 0)),.c (.lit (.int .i64 0))])]
  let B:List (GB Tryz.prog L):=[gb .eql 28 (.c (.sym 5)) (.c (.sym 5)) (.lit (.bool true)) (fl_eql _ _ _ true (ord_eq (r:=r) (q:=r) hr hr true (by rw[decide_eq_true rfl]))) (by kernel_rfl) (by kernel_rfl) (by kernel_rfl),gb .eql 4 (.c (.lit (.bool true))) (.c (.lit (.bool true))) (.lit (.bool true)) (Tr.bool_eql Tryz.underlying4 true true true rfl) (by kernel_rfl) (by kernel_rfl) (by kernel_rfl),gbFnNilB 55 [] [92,93]]
  let O:List (GO Tryz.prog L):=[]
  exact back_leaf (L:=L) C B O (b1:=92) (b2:=93) (bk:=88) (i1:=5) (i2:=5) (r:=r) (q:=r) (N:=1) (by kernel_rfl) hr hr (fun v w A e=>e) (fun v w A e=>e) (rkN_one r) (by decide)
    (by kernel_rfl) (by kernel_rfl) (by kernel_rfl) (by kernel_rfl) (by kernel_rfl) (by kernel_rfl) (by kernel_rfl) (by intro d; kernel_rfl)
theorem bk_d2d_N(s:Bool)(b:Nat)(hb:b<9223372036854775808)(hf:¬b≤GW)(q:Rat)(h:ShortF q)(hl:¬((200:Int)<((rwQ q).s1.size:Int)∨(200:Int)<((rwQ q).s2.size:Int)))(r:Int)(hr:r.natAbs≤GW)(hr2:(r+1).natAbs≤GW)(hlo:fr r<q)(hhi:q<fr (r+1))(pu:SpecC Tryz.prog true 11 [F1 q] (.tup [.c (gx (.float .f64 (rkW (r+1)))),.c (gl (.int .i64 0))]))(pd:SpecC Tryz.prog true 12 [F1 q] (.tup [.c (gx (.float .f64 (rkW r))),.c (gl (.int .i64 0))]))(pa:SpecC Tryz.prog true 10 [F1 q] (.tup [.c (gx (.float .f64 (rkW r))),.c (gl (.int .i64 0))])):SpecC Tryz.prog true 5 [.c (gx (.float .f64 (sgw s b))),.row (rF q)] (B1 true):=by
  have xd:=nExact_rk hr
  have xu:=nExact_rk hr2
  have cd:=aFCmp (fr r) q (short_fr hr) h
  have cu:=aFCmp (fr (r+1)) q (short_fr hr2) h
  rw[cmpR_m hlo] at cd
  rw[cmpR_p hhi] at cu
  let L:List GF:=(gx (.float .f64 (sgw s b)) :: rF q++[gx (.float .f64 (rkW r)),gx (.float .f64 (rkW (r+1)))]++rF (fr r)++rF (fr (r+1)))
  let C : List (GC Tryz.prog L true) := [gs (nExact_bad (s := s) (b := b) hb hf) [.c (.sym 0)] (.tup [.row [.lit (.bool false),.lit .str0,.lit (.bool false),.lit .str0],.c (.lit (.int .i64 6))]),gs (lLong (rwQ q) 200 false ⟨fun e=>(by cases e),fun k=>absurd k hl⟩) [.c (.lit (.int .i64 200)),.row [.sym 1,.sym 2,.sym 3,.sym 4]] (.r (.c (.lit (.bool false)))),gs (aFMayQ q h) [.row [.sym 1,.sym 2,.sym 3,.sym 4]] (.r (.c (.lit (.bool true)))),gs lKnown [] (.r (.c (.lit (.bool true)))),gs pu [.row [.sym 1,.sym 2,.sym 3,.sym 4]] (.tup [.c (.sym 6),.c (.lit (.int .i64 0))]),gs pd [.row [.sym 1,.sym 2,.sym 3,.sym 4]] (.tup [.c (.sym 5),.c (.lit (.int .i64 0))]),gs pa [.row [.sym 1,.sym 2,.sym 3,.sym 4]] (.tup [.c (.sym 5),.c (.lit (.int .i64 0))]),gs xd [.c (.sym 5)] (.tup [.row [.sym 7,.sym 8,.sym 9,.sym 10],.c (.lit (.int .i64 0))]),gs xu [.c (.sym 6)] (.tup [.row [.sym 11,.sym 12,.sym 13,.sym 14],.c (.lit (.int .i64 0))]),gs cd [.row [.sym 7,.sym 8,.sym 9,.sym 10],.row [.sym 1,.sym 2,.sym 3,.sym 4]] (.tup [.c (.lit (.int .i64 (-1))),.c (.lit (.int .i64 0))]),gs cu [.row [.sym 11,.sym 12,.sym 13,.sym 14],.row [.sym 1,.sym 2,.sym 3,.sym 4]] (.tup [.c (.lit (.int .i64 1)),.c (.lit (.int .i64 0))])]
  let B:List (GB Tryz.prog L):=[gb .eql 28 (.c (.sym 6)) (.c (.sym 5)) (.lit (.bool false)) (fl_eql _ _ _ false (ord_eq (r:=(r+1)) (q:=r) hr2 hr false (by rw[decide_eq_false (by omega)]))) (by kernel_rfl) (by kernel_rfl) (by kernel_rfl),gb .eql 4 (.c (.lit (.bool false))) (.c (.lit (.bool false))) (.lit (.bool true)) (Tr.bool_eql Tryz.underlying4 false false true rfl) (by kernel_rfl) (by kernel_rfl) (by kernel_rfl),gb .eql 28 (.c (.sym 5)) (.c (.sym 6)) (.lit (.bool false)) (fl_eql _ _ _ false (ord_eq (r:=r) (q:=(r+1)) hr hr2 false (by rw[decide_eq_false (by omega)]))) (by kernel_rfl) (by kernel_rfl) (by kernel_rfl),gb .eql 28 (.c (.sym 5)) (.c (.sym 5)) (.lit (.bool true)) (fl_eql _ _ _ true (ord_eq (r:=r) (q:=r) hr hr true (by rw[decide_eq_true rfl]))) (by kernel_rfl) (by kernel_rfl) (by kernel_rfl),gbFnNilB 55 [] [92,93]]
  let O:List (GO Tryz.prog L):=[]
  exact back_leaf (L:=L) C B O (b1:=92) (b2:=93) (bk:=88) (i1:=5) (i2:=6) (r:=r) (q:=(r+1)) (N:=2) (by kernel_rfl) hr hr2 (fun v w A e=>e) (fun v w A e=>e) (rkN_two r) (by decide)
    (by kernel_rfl) (by kernel_rfl) (by kernel_rfl) (by kernel_rfl) (by kernel_rfl) (by kernel_rfl) (by kernel_rfl) (by intro d; kernel_rfl)
theorem bk_d2u_N(s:Bool)(b:Nat)(hb:b<9223372036854775808)(hf:¬b≤GW)(q:Rat)(h:ShortF q)(hl:¬((200:Int)<((rwQ q).s1.size:Int)∨(200:Int)<((rwQ q).s2.size:Int)))(r:Int)(hr:r.natAbs≤GW)(hr2:(r+1).natAbs≤GW)(hlo:fr r<q)(hhi:q<fr (r+1))(pu:SpecC Tryz.prog true 11 [F1 q] (.tup [.c (gx (.float .f64 (rkW (r+1)))),.c (gl (.int .i64 0))]))(pd:SpecC Tryz.prog true 12 [F1 q] (.tup [.c (gx (.float .f64 (rkW r))),.c (gl (.int .i64 0))]))(pa:SpecC Tryz.prog true 10 [F1 q] (.tup [.c (gx (.float .f64 (rkW (r+1)))),.c (gl (.int .i64 0))])):SpecC Tryz.prog true 5 [.c (gx (.float .f64 (sgw s b))),.row (rF q)] (B1 true):=by
  have xd:=nExact_rk hr
  have xu:=nExact_rk hr2
  have cd:=aFCmp (fr r) q (short_fr hr) h
  have cu:=aFCmp (fr (r+1)) q (short_fr hr2) h
  rw[cmpR_m hlo] at cd
  rw[cmpR_p hhi] at cu
  let L:List GF:=(gx (.float .f64 (sgw s b)) :: rF q++[gx (.float .f64 (rkW r)),gx (.float .f64 (rkW (r+1)))]++rF (fr r)++rF (fr (r+1)))
  let C : List (GC Tryz.prog L true) := [gs (nExact_bad (s := s) (b := b) hb hf) [.c (.sym 0)] (.tup [.row [.lit (.bool false),.lit .str0,.lit (.bool false),.lit .str0],.c (.lit (.int .i64 6))]),gs (lLong (rwQ q) 200 false ⟨fun e=>(by cases e),fun k=>absurd k hl⟩) [.c (.lit (.int .i64 200)),.row [.sym 1,.sym 2,.sym 3,.sym 4]] (.r (.c (.lit (.bool false)))),gs (aFMayQ q h) [.row [.sym 1,.sym 2,.sym 3,.sym 4]] (.r (.c (.lit (.bool true)))),gs lKnown [] (.r (.c (.lit (.bool true)))),gs pu [.row [.sym 1,.sym 2,.sym 3,.sym 4]] (.tup [.c (.sym 6),.c (.lit (.int .i64 0))]),gs pd [.row [.sym 1,.sym 2,.sym 3,.sym 4]] (.tup [.c (.sym 5),.c (.lit (.int .i64 0))]),gs pa [.row [.sym 1,.sym 2,.sym 3,.sym 4]] (.tup [.c (.sym 6),.c (.lit (.int .i64 0))]),gs xd [.c (.sym 5)] (.tup [.row [.sym 7,.sym 8,.sym 9,.sym 10],.c (.lit (.int .i64 0))]),gs xu [.c (.sym 6)] (.tup [.row [.sym 11,.sym 12,.sym 13,.sym 14],.c (.lit (.int .i64 0))]),gs cd [.row [.sym 7,.sym 8,.sym 9,.sym 10],.row [.sym 1,.sym 2,.sym 3,.sym 4]] (.tup [.c (.lit (.int .i64 (-1))),.c (.lit (.int .i64 0))]),gs cu [.row [.sym 11,.sym 12,.sym 13,.sym 14],.row [.sym 1,.sym 2,.sym 3,.sym 4]] (.tup [.c (.lit (.int .i64 1)),.c (.lit (.int .i64 0))])]
  let B:List (GB Tryz.prog L):=[gb .eql 28 (.c (.sym 6)) (.c (.sym 5)) (.lit (.bool false)) (fl_eql _ _ _ false (ord_eq (r:=(r+1)) (q:=r) hr2 hr false (by rw[decide_eq_false (by omega)]))) (by kernel_rfl) (by kernel_rfl) (by kernel_rfl),gb .eql 4 (.c (.lit (.bool false))) (.c (.lit (.bool false))) (.lit (.bool true)) (Tr.bool_eql Tryz.underlying4 false false true rfl) (by kernel_rfl) (by kernel_rfl) (by kernel_rfl),gb .eql 28 (.c (.sym 6)) (.c (.sym 6)) (.lit (.bool true)) (fl_eql _ _ _ true (ord_eq (r:=(r+1)) (q:=(r+1)) hr2 hr2 true (by rw[decide_eq_true rfl]))) (by kernel_rfl) (by kernel_rfl) (by kernel_rfl),gbFnNilB 55 [] [92,93]]
  let O:List (GO Tryz.prog L):=[]
  exact back_leaf (L:=L) C B O (b1:=92) (b2:=93) (bk:=88) (i1:=5) (i2:=6) (r:=r) (q:=(r+1)) (N:=2) (by kernel_rfl) hr hr2 (fun v w A e=>e) (fun v w A e=>e) (rkN_two r) (by decide)
    (by kernel_rfl) (by kernel_rfl) (by kernel_rfl) (by kernel_rfl) (by kernel_rfl) (by kernel_rfl) (by kernel_rfl) (by intro d; kernel_rfl)
end Go.Proofs.YthklnbaddobieaaGreat
namespace Go.Proofs.YthklnbaddobieaaGreat
open Go.RowKit Tr
theorem rw_q{f:RwF}(h:FracOk f.val):∃ q,f=rwQ q∧ShortF q:=by
 obtain⟨q,e,k1,k2⟩:=h
 obtain⟨e0,e1,e2,e3⟩:=encF_parts e
 obtain⟨n1,n2,s1,s2⟩:=f
 subst e0 e1 e2 e3
 exact⟨q,rfl,k1,k2⟩
theorem back_F(s:Bool)(b:Nat)(hf:b≤GW)(f:RwF):SpecC Tryz.prog true 5 [.c (gx (.float .f64 (sgw s b))),.row f.cells] (B1 true):=by
 by_cases hl:(200:Int)<(f.s1.size:Int)∨(200:Int)<(f.s2.size:Int)
 ·exact bk_long_F s b hf f hl
 ·by_cases hx:FracOk f.val
  ·obtain⟨q,rfl,h⟩:=rw_q hx
   obtain⟨y,hy,-⟩:=flt_ex q
   have pa:=nFloat_any q h hy
   have pu:=nUp_ok q h
   have pd:=nDown_ok q h
   have hS:=fun d u=>stand (q:=q) (d:=d) (u:=u)
   have hA:=fun d u y=>at_of (q:=q) (d:=d) (u:=u) (y:=y)
   generalize upQ q=U at *
   generalize downQ q=D at *
   cases U with
   | none =>
    rw[upG D] at pd
    rw[upG y] at pa
    exact bk_c1_F s b hf q h hl 0 (D.getD 0) (y.getD 0) (ecd D) (ecd y) pu pd pa
   | some u =>
    cases D with
    | none =>
     rw[upG y] at pa
     exact bk_c2_F s b hf q h hl u 0 (y.getD 0) (ecd y) pu pd pa
    | some d =>
     cases y with
     | none=>exact bk_c3_F s b hf q h hl u d 0 pu pd pa
     | some y =>
      have hat:=hA d u y rfl rfl hy
      obtain⟨r,hr,rfl,⟨rfl,he⟩|⟨hr2,rfl,hlo,hhi⟩⟩:=hS d u rfl rfl
      ·have e:y=rkW r:=by rcases hat with e|e<;>exact e
       subst e
       exact bk_d1_F s b hf q h hl r hr he pu pd pa
      ·rcases hat with e|e
       ·subst e; exact bk_d2d_F s b hf q h hl r hr hr2 hlo hhi pu pd pa
       ·subst e; exact bk_d2u_F s b hf q h hl r hr hr2 hlo hhi pu pd pa
  ·exact bk_bad_F s b hf f hl hx
theorem back_N(s:Bool)(b:Nat)(hb:b<9223372036854775808)(hf:¬b≤GW)(f:RwF):SpecC Tryz.prog true 5 [.c (gx (.float .f64 (sgw s b))),.row f.cells] (B1 true):=by
 by_cases hl:(200:Int)<(f.s1.size:Int)∨(200:Int)<(f.s2.size:Int)
 ·exact bk_long_N s b hb hf f hl
 ·by_cases hx:FracOk f.val
  ·obtain⟨q,rfl,h⟩:=rw_q hx
   obtain⟨y,hy,-⟩:=flt_ex q
   have pa:=nFloat_any q h hy
   have pu:=nUp_ok q h
   have pd:=nDown_ok q h
   have hS:=fun d u=>stand (q:=q) (d:=d) (u:=u)
   have hA:=fun d u y=>at_of (q:=q) (d:=d) (u:=u) (y:=y)
   generalize upQ q=U at *
   generalize downQ q=D at *
   cases U with
   | none =>
    rw[upG D] at pd
    rw[upG y] at pa
    exact bk_c1_N s b hb hf q h hl 0 (D.getD 0) (y.getD 0) (ecd D) (ecd y) pu pd pa
   | some u =>
    cases D with
    | none =>
     rw[upG y] at pa
     exact bk_c2_N s b hb hf q h hl u 0 (y.getD 0) (ecd y) pu pd pa
    | some d =>
     cases y with
     | none=>exact bk_c3_N s b hb hf q h hl u d 0 pu pd pa
     | some y =>
      have hat:=hA d u y rfl rfl hy
      obtain⟨r,hr,rfl,⟨rfl,he⟩|⟨hr2,rfl,hlo,hhi⟩⟩:=hS d u rfl rfl
      ·have e:y=rkW r:=by rcases hat with e|e<;>exact e
       subst e
       exact bk_d1_N s b hb hf q h hl r hr he pu pd pa
      ·rcases hat with e|e
       ·subst e; exact bk_d2d_N s b hb hf q h hl r hr hr2 hlo hhi pu pd pa
       ·subst e; exact bk_d2u_N s b hb hf q h hl r hr hr2 hlo hhi pu pd pa
  ·exact bk_bad_N s b hb hf f hl hx
theorem back_true(w:Nat)(hw:w<18446744073709551616)(f:RwF):SpecC Tryz.prog true 5 [.c (gx (.float .f64 w)),.row f.cells] (B1 true):=by
 obtain⟨s,b,rfl,hb⟩:=word_cases hw
 by_cases hf:b≤GW
 ·exact back_F s b hf f
 ·exact back_N s b hb hf f
end Go.Proofs.YthklnbaddobieaaGreat
