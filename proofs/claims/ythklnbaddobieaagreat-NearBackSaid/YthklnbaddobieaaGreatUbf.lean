/- Laws for the walk. -/
import Derived.Test.YthklnbaddobieaaGreatUbe
set_option linter.unusedVariables false
set_option maxHeartbeats 4000000
namespace Tr
open Go Ieee
def rkW(r:Int):Nat:=if r<0 then 9223372036854775808+r.natAbs else r.natAbs
def rkS(s:Bool)(b:Nat):Int:=if s then -(b:Int) else b
theorem rkW_sgw(r:Int):rkW r=sgw (decide (r<0)) r.natAbs:=by unfold rkW sgw; by_cases h:r<0<;>simp[h]
theorem rk_pz(s:Bool)(b:Nat):pz s b=rkW (rkS s b):=by
 unfold pz rkW rkS sgw
 cases s
 ·by_cases h:b=0
  ·subst h; rfl
  ·simp[h]
 ·by_cases h:b=0
  ·subst h; rfl
  ·simp[h]
def vr(r:Int):Int:=if r<0 then -((VV r.natAbs:Nat):Int) else((VV r.natAbs:Nat):Int)
theorem vr_sgv(s:Bool)(b:Nat):sgv s b=vr (rkS s b):=by
 unfold sgv vr rkS
 cases s
 ·rw[if_neg (by simp),if_neg (by simp),if_neg (by simp)]; simp
 ·by_cases h:b=0
  ·subst h; rfl
  ·have:-(b:Int)<0:=by omega
   show -((VV b:Nat):Int)=(if -(b:Int)<0 then -((VV (-(b:Int)).natAbs:Nat):Int) else((VV (-(b:Int)).natAbs:Nat):Int))
   rw[if_pos this,Int.natAbs_neg,Int.natAbs_natCast]
theorem vr_mono{r q:Int}(h:r<q):vr r<vr q:=by
 unfold vr
 have pos:∀ n:Nat,0<n→0<VV n:=fun n hn=>Nat.lt_of_le_of_lt (Nat.zero_le (VV 0)) (VV_mono hn)
 by_cases h1:r<0
 ·rw[if_pos h1]
  have:=pos r.natAbs (by omega)
  by_cases h2:q<0
  ·rw[if_pos h2]
   have:=VV_mono (show q.natAbs<r.natAbs by omega)
   omega
  ·rw[if_neg h2]; omega
 ·rw[if_neg h1,if_neg (by omega)]
  have:=VV_mono (show r.natAbs<q.natAbs by omega)
  omega
theorem cmp_vr(r q:Int):compare (vr r) (vr q)=compare r q:=by
 rcases Int.lt_trichotomy r q with h|h|h
 ·rw[Int.compare_eq_lt.2 (vr_mono h),Int.compare_eq_lt.2 h]
 ·subst h; rw[Int.compare_eq_eq.2 rfl,Int.compare_eq_eq.2 rfl]
 ·rw[Int.compare_eq_gt.2 (vr_mono h),Int.compare_eq_gt.2 h]
theorem rkS_dec(r:Int):rkS (decide (r<0)) r.natAbs=r:=by unfold rkS; by_cases h:r<0<;>simp[h]<;>omega
theorem ord_rk{r:Int}{t:Bool}{b:Nat}(hr:r.natAbs≤GW)(hb:b≤GW):double.order (rkW r) (sgw t b)=some (compare r (rkS t b)):=by
 rw[rkW_sgw,ord_sgw hr hb,vr_sgv,vr_sgv,cmp_vr,rkS_dec]
theorem next_rk{r:Int}(h:r.natAbs≤GW)(hlt:r<(GW:Int)):∃ s b,rkW r=sgw s b∧b≤GW∧double.add (nxW s b) 0=some (rkW (r+1)):=by
 refine⟨decide (r<0),r.natAbs,rkW_sgw r,h,?_⟩
 unfold nxW
 by_cases h0:r.natAbs=0
 ·rw[if_pos h0]
  have e:r=0:=by omega
  subst e
  exact(add_zero (s:=false) (b:=1) (by unfold GW; omega)).trans rfl
 ·rw[if_neg h0]
  by_cases h1:r<0
  ·rw[if_pos (by simp[h1]),add_zero (by omega),rkW_sgw (r+1)]
   by_cases h2:r.natAbs - 1=0
   ·rw[if_pos h2]
    have e:r=-1:=by omega
    subst e; rfl
   ·rw[if_neg h2,show decide (r+1<0)=true from decide_eq_true (by omega),show(r+1).natAbs=r.natAbs - 1 by omega]
  ·rw[if_neg (by simp[h1])]
   have e:=add_zero (s:=false) (b:=r.natAbs+1) (by omega)
   rw[if_neg (by omega)] at e
   rw[show r.natAbs+1=sgw false (r.natAbs+1) from rfl,e,rkW_sgw (r+1),show decide (r+1<0)=false from decide_eq_false (by omega),show(r+1).natAbs=r.natAbs+1 by omega]
end Tr
namespace Go.Proofs.YthklnbaddobieaaGreat
open Go.RowKit Go.Shelf Tr
attribute [local go_sem] Oper.semAt_some
theorem wpListIn_fok{F:Fence}{n:Nat}{P:Program}{ops:Array Oper}{rest:List Oper}{o:Oper}{a:Act}{w:World}{Q:Exit→Act→World→Prop}(hgd:o.guard=none)
  (op:BinOp) (t ty:TypeId) (x y:Operand) (ho:o.op=.binOp op t x y ty) (bx by_:Nat) {r:Nat}
  (hx:a.eval x=.float .f64 bx) (hy:a.eval y=.float .f64 by_) (hv:VOp op bx by_ r)
  (h:wpListIn F n P ops Q rest (a.put o.dst (.float .f64 r)) w):wpListIn F n P ops Q (o :: rest) a w :=
 wpListIn_plain hgd fun K hK=>by
  refine⟨fun f hf=>(by simp only[Oper.about,ho] at hf; cases hf),?_⟩
  rw[Oper.semAt_plain F _ _ (fun c=>by rw[ho]; exact nofun)]
  have hr:=run_float_arith (P:=P) w op t .f64 bx by_ r hv
  have hg:eqGuard op t x y (.float .f64 bx) (.float .f64 by_)=pure ():=by
   unfold VOp floatBits at hv
   cases op<;>simp only at hv<;>first|rfl|(cases hv; done)
  unfold execOp
  simp only[ho,hx,hy,hg,Sem.run_bind,Sem.run_pure,Result.andThen_ok,hr]
  exact hK _ _ h
theorem finite_any(s:Bool){b:Nat}(hb:b<9223372036854775808)(w:World):Calls Tryz.prog 37 #[.float .f64 (sgw s b)] w fun e w'=>e=.returned (.bool (decide (b≤GW)))∧Below w.heap.size w w':=aFin (s:=s) hb _ rfl w
end Go.Proofs.YthklnbaddobieaaGreat
namespace Go.Proofs.YthklnbaddobieaaGreat
open Go.RowKit Go.Shelf
end Go.Proofs.YthklnbaddobieaaGreat
namespace Go.Proofs.YthklnbaddobieaaGreat
open Go.RowKit Go.Shelf Tr
attribute [local go_sem] Oper.semAt_some
def AW(A:Nat→Prop)(x B:Nat)(W:World)(k:Nat):Prop:=A k∨k=x∨(B≤k∧∃ o,W.heap[k]?=some o∧o.isCells=false)
theorem AW.lt{A:Nat→Prop}{x B:Nat}{W:World}(hA:∀ n,A n→n<W.heap.size)(hx:x<W.heap.size){k:Nat}(h:AW A x B W k):k<W.heap.size:=by
 rcases h with h|rfl|⟨_,o,h,_⟩
 ·exact hA k h
 ·exact hx
 ·exact(Array.getElem?_eq_some_iff.1 h).1
theorem AW.rcv{A:Nat→Prop}{x B:Nat}{W:World}(hA:Rcv A W){vs:List Value}{t:TypeId}(hx:W.heap[x]?=some (.cells vs.toArray t (0,0)))(hn:NoW (.cells vs.toArray t (0,0))):Rcv (AW A x B W) W:=by
 intro k h
 rcases h with h|rfl|⟨_,o,h,ho⟩
 ·exact hA k h
 ·exact⟨_,hx,hn⟩
 ·refine⟨o,h,?_⟩
  intro cs T fr e
  subst e
  cases ho
theorem load_one{P:Program}{w:World}{t:TypeId}{d:TypeDesc}{p:Addr}{v:Value}(hd:P.underlying t=some d)(hg:isAggD d=false)(hc:w.cell? p=some v):(loadVar t p).run P w=.ok v w:=by
 simp[loadVar,run_isAgg hd,hg,hc]
end Go.Proofs.YthklnbaddobieaaGreat
namespace Go.Proofs.YthklnbaddobieaaGreat
open Go.RowKit Go.Shelf Tr
attribute [local go_sem] Oper.semAt_some
theorem grownBy_of_belowF{w w':World}(h:Below w.heap.size w w'):w.grownBy w' none:=⟨h.os,h.tape,h.output,h.size,fun k hk _=>h.block k hk⟩
end Go.Proofs.YthklnbaddobieaaGreat
namespace Go.Proofs.YthklnbaddobieaaGreat
open Go.RowKit Go.Shelf Tr
attribute [local go_sem] Oper.semAt_some
def rkV(v:Value):Int:=match v with|.float _ x=>(if 9223372036854775808≤x then -((x - 9223372036854775808:Nat):Int) else(x:Int))|_=>0
theorem rkV_rkW{r:Int}(h:r.natAbs≤GW):rkV (.float .f64 (rkW r))=r:=by
 unfold rkV rkW GW at *
 by_cases h1:r<0
 ·simp only[if_pos h1]; rw[if_pos (by omega)]; omega
 ·simp only[if_neg h1]; rw[if_neg (by omega)]; omega
theorem ord_rq{r q:Int}{t:Bool}{b:Nat}(hr:r.natAbs≤GW)(hb:b≤GW)(hq:q=rkS t b):FloatKind.f64.format.order (rkW r) (sgw t b)=some (compare r q):=by subst hq; exact ord_rk hr hb
theorem ord_max{r:Int}(hr:r.natAbs≤GW):FloatKind.f64.format.order (rkW r) 9218868437227405311=some (compare r (GW:Int)):=ord_rk (t:=false) (b:=GW) hr (Nat.le_refl _)
def rkN(r q:Int):Nat:=(q - r+1).toNat
set_option maxRecDepth 100000 in
theorem btw_in(s t:Bool)(a b:Nat)(ha:a≤GW)(hb:b≤GW)(r q:Int)(hr:r=rkS s a)(hq:q=rkS t b)(l B1 B2:Nat)
  (M:Nat→Prop) (n₀:Nat) (J Jx:List Nat→World→Prop) (hJg:∀ pre W W',J pre W→Below W.heap.size W W'→J pre W')
  (hY:∀ pre x W,J pre W→pre.length<rkN r q→YieldAt Fence.wide 1 Tryz.prog l #[.float .f64 (rkW (r+(x:Nat)))] W fun e W' =>
   (e=.returned (.bool true)∧J (pre++[x]) W'∧BelowM M n₀ W W')∨(e=.returned (.bool false)∧Jx (pre++[x]) W'))
  (W:World) (hn0:n₀≤W.heap.size) (hB1:∀ W',BelowM M n₀ W W'→W'.cell? ⟨B1,0,none⟩=some (.float .f64 (sgw s a))) (hB2:∀ W',BelowM M n₀ W W'→W'.cell? ⟨B2,0,none⟩=some (.float .f64 (sgw t b))) (h0:J [] W) :
  CallsIn Fence.wide 2 Tryz.prog 55 #[.func (.yield l) #[] #[],.pointer (some ⟨B1,0,none⟩),.pointer (some ⟨B2,0,none⟩)] W fun e W'=>(∃ v,e=.returned v) ∧
   ((∃ ys,ys=upto (fun k=>k) (rkN r q)∧J ys W')∨(∃ pre,(∃ k,k≤rkN r q∧pre=upto (fun k=>k) k)∧Jx pre W')):=by
 refine callsIn_of_wp Tryz.func55 rfl trivial ?_ rfl
 simp only[Tryz.ntmps55,List.size_toArray,List.length_cons,List.length_nil,Nat.reduceAdd,Nat.reduceSub,Array.replicate_succ,Array.replicate_zero,List.push_toArray,List.append_toArray,List.nil_append,List.cons_append]
 have c1:=hB1 W (BelowM.refl _ _ W)
 have c2:=hB2 W (BelowM.refl _ _ W)
 have d1:decide (a≤GW)=true:=decide_eq_true ha
 have d2:decide (b≤GW)=true:=decide_eq_true hb
 have f1:=fun w=>finite_any s (b:=a) (by unfold GW at ha; omega) w
 have f2:=fun w=>finite_any t (b:=b) (by unfold GW at hb; omega) w
 rw[d1] at f1
 rw[d2] at f2
 have hv:VOp .add (sgw s a) 0 (rkW r):=by
  have:=add_zero (s:=s) (b:=a) ha
  rw[show(if a=0 then 0 else sgw s a)=pz s a from rfl,rk_pz,←hr] at this
  exact this
 have HH:=Lib.hid (And.intro d1 d2)
 clear d1 d2
 gi_wp2
 refine⟨trivial,?_⟩
 refine(callsIn_wide.2 (f1 W)).mono ?_
 rintro e1 W1 ⟨rfl,hb1⟩
 have m1:BelowM M n₀ W W1:=BelowM.of hb1 hn0
 clear c1 c2
 have c1:=hB1 W1 m1
 have c2:=hB2 W1 m1
 gi_wp2
 refine⟨trivial,?_⟩
 refine(callsIn_wide.2 (f2 W1)).mono ?_
 rintro e2 W2 ⟨rfl,hb2⟩
 have m2:BelowM M n₀ W W2:=m1.trans (BelowM.of hb2 (Nat.le_trans hn0 hb1.size))
 clear c1 c2
 have c1:=hB1 W2 m2
 have c2:=hB2 W2 m2
 have h02:J [] W2:=hJg _ _ _ (hJg _ _ _ h0 hb1) hb2
 have hra:r.natAbs≤GW:=by rw[hr]; unfold rkS; split<;>omega
 have hqb:q.natAbs≤GW:=by rw[hq]; unfold rkS; split<;>omega
 have HQ:=Lib.hid (And.intro hr hq)
 clear hr hq
 gi_wp2_with (refine wpListIn_fok rfl _ _ _ _ _ rfl _ _ rfl rfl hv ?_)
 gi_loopw [4] (fun i wr=>∃ k:Nat,k≤rkN r q∧(r+(k:Nat)).natAbs≤GW∧i=.float .f64 (rkW (r+(k:Nat)))∧J (upto (fun k=>k) k) wr∧BelowM M n₀ W wr)
  (fun i _=>(q - rkV i+1).toNat)
 case atStart=>exact⟨0,Nat.zero_le _,by simpa using hra,by simp,h02,m2⟩
 case round =>
  obtain⟨k,hk,hka,rfl,hJs,hnx⟩:=hrel
  have c3:=hB2 wr hnx
  have hsz:=hnx.size
  clear c1 c2
  have ho:=ord_rq hka hb HQ.out.2
  have hN:k<rkN r q↔r+(k:Nat)≤q:=by unfold rkN; omega
  by_cases hlt:k<rkN r q
  ·have hle:=hN.1 hlt
   have ho':(FloatKind.f64.format.order (rkW (r+(k:Nat))) (sgw t b) == some .lt || FloatKind.f64.format.order (rkW (r+(k:Nat))) (sgw t b) == some .eq)=true:=by
    rw[ho]
    by_cases h:r+(k:Nat)=q
    ·rw[Int.compare_eq_eq.2 h]; rfl
    ·rw[Int.compare_eq_lt.2 (by omega)]; rfl
   obtain⟨fn,tmps,assign,body,hy,hR⟩:=hY _ k wr hJs (by rw[upto_length]; exact hlt)
   have om:=ord_max hka
   have HM:=Lib.hid (And.intro hle (And.intro hN hka))
   clear ho hle hN
   by_cases hmx:r+(k:Nat)=(GW:Int)
   ·rw[Int.compare_eq_eq.2 hmx] at om
    have HX:=Lib.hid hmx
    clear hmx
    generalize rkW (r+(k:Nat))=X at *
    gi_wp2
    refine hR.mono ?_
    rintro e W3 (⟨rfl,hJ3,hk3⟩|⟨rfl,hJx3⟩)
    ·gi_wp2
     refine bodyPost_ret (results_none rfl _ _ _) rfl ?_
     have h1:=HX.out
     have h2:=HM.out.1
     have e:rkN r q=k+1:=by unfold rkN; omega
     exact⟨⟨_,rfl⟩,.inl ⟨_,rfl,by rw[e,upto_succ]; exact hJ3⟩⟩
    ·gi_wp2
     refine bodyPost_ret (results_none rfl _ _ _) rfl ?_
     exact⟨⟨_,rfl⟩,.inr ⟨_,⟨k+1,by omega,(by rw[upto_succ])⟩,hJx3⟩⟩
   ·have hlg:r+(k:Nat)<(GW:Int):=by omega
    rw[Int.compare_eq_lt.2 hlg] at om
    obtain⟨s',b',e1,e2,e3⟩:=next_rk hka hlg
    have hn:∀ w,Calls Tryz.prog 41 #[.float .f64 (rkW (r+(k:Nat)))] w fun e w'=>e=.returned (.float .f64 (nxW s' b'))∧w=w':=fun w=>by rw[e1]; exact next_any e2 w
    have hv3:VOp .add (nxW s' b') 0 (rkW (r+(k:Nat)+1)):=e3
    have HX:=Lib.hid (And.intro hlg (rkV_rkW hka))
    clear e1 e2 e3 hmx hlg
    generalize nxW s' b'=Y at *
    generalize hXX:rkW (r+(k:Nat))=X at *
    generalize hZZ:rkW (r+(k:Nat)+1)=Z at *
    have HZ:=Lib.hid (And.intro hXX hZZ)
    clear hXX hZZ
    gi_wp2
    refine hR.mono ?_
    rintro e W3 (⟨rfl,hJ3,hk3⟩|⟨rfl,hJx3⟩)
    ·gi_wp2
     refine⟨trivial,?_⟩
     refine(callsIn_wide.2 (hn W3)).mono ?_
     rintro e2 W4 ⟨rfl,rfl⟩
     gi_wp2_with (refine wpListIn_fok rfl _ _ _ _ _ rfl _ _ rfl rfl hv3 ?_)
     have hlg:=HX.out.1
     have hx:=HX.out.2
     have hka':=HM.out.2.2
     have hle:=HM.out.1
     have ha':(r+(k:Nat)+1).natAbs≤GW:=by omega
     have hz:rkV (.float .f64 Z)=r+(k:Nat)+1:=by rw[←HZ.out.2]; exact rkV_rkW ha'
     have ec:r+((k+1:Nat):Int)=r+(k:Nat)+1:=by omega
     refine⟨⟨k+1,by omega,by rw[ec]; exact ha',by rw[ec,HZ.out.2],by rw[upto_succ]; exact hJ3,hnx.trans hk3⟩,?_⟩
     rw[hz,hx]
     omega
    ·gi_wp2
     refine bodyPost_ret (results_none rfl _ _ _) rfl ?_
     exact⟨⟨_,rfl⟩,.inr ⟨_,⟨k+1,by omega,(by rw[upto_succ])⟩,hJx3⟩⟩
  ·have hgt:q<r+(k:Nat):=by have:=fun h=>hlt (hN.2 h); omega
   have ho':(FloatKind.f64.format.order (rkW (r+(k:Nat))) (sgw t b) == some .lt || FloatKind.f64.format.order (rkW (r+(k:Nat))) (sgw t b) == some .eq)=false:=by rw[ho,Int.compare_eq_gt.2 hgt]; rfl
   have ek:k=rkN r q:=by omega
   have HE:=Lib.hid ek
   clear ho hN ek hgt
   generalize rkW (r+(k:Nat))=X at *
   gi_wp2
   go_end0
   exact⟨⟨_,rfl⟩,.inl ⟨_,rfl,by rw[←HE.out]; exact hJs⟩⟩
end Go.Proofs.YthklnbaddobieaaGreat
namespace Tr
open Go Go.RowKit
section
variable{P:Program}{L:List GF}{hp:Bool}
end
end Tr
namespace Tr
open Go Go.RowKit
def bodyOf(fn:Func):Code:=fn.body.getD .skip
section
variable{P:Program}{T:Nat→Fact}{cx cx':Cx}{A0 M:Nat→Prop}{w0:World}{σs σ:Sg}{s:AS}{a:Act}{w:World}
theorem upN_ints(cx:Cx)(fs:List Fn)(width:Nat):∀ n,(upN cx fs width n).ints=cx.ints
 | 0=>rfl
 | n+1=>upN_ints cx fs width n
end
section
variable{P:Program}{hp:Bool}{L L':List GF}{fn:Func}{fr:FV}{c:Code}{s mid:AS}
end
end Tr
namespace Tr
open Go Go.RowKit Go.Shelf
def markD(D:Nat):Deferred:={ target:=.collected D,args:=#[] }
def wpL(P:Program):List Code→(Exit→Act→World→Prop)→Act→World→Prop
 | [],Q,a,w=>Q .normal a w
 | c :: l,Q,a,w=>c.wp P (Exit.then (wpL P l Q) Q) a w
def evCL(cx:Cx)(n:Nat):List Code→AS→Option (Ex×AS)
 | [],s=>some (.normal,s)
 | c :: l,s=>match evC cx n c s with
  | some (.normal,s1)=>evCL cx n l s1
  | r=>r
def splitF:Code→Option (Code×Code×List Code)
 | .seq x y=>match x with
  | .block id (.rangeFunc g ps a b)=>some (.skip,.block id (.rangeFunc g ps a b),[y])
  | x=>match splitF x with
   | some (h,r,t)=>some (h,r,t++[y])
   | none=>match splitF y with|some (h,r,t)=>some (.seq x h,r,t)|none=>none
 | .block id (.rangeFunc g ps a b)=>some (.skip,.block id (.rangeFunc g ps a b),[])
 | _=>none
def endsN:Option (Ex×AS)→Bool|some (.normal,_)=>true|_=>false
def stOf(x:Option (Ex×AS)):AS:=(x.map Prod.snd).getD ⟨[],[]⟩
theorem endsN_ok{x:Option (Ex×AS)}(h:endsN x=true):x=some (.normal,stOf x):=by
 unfold endsN at h
 split at h
 ·rfl
 ·cases h
def endsL(cx:Cx)(fn:Func)(l:LV):Option (Ex×AS)→Bool
 | some (.exit _,_)=>false
 | some (_,s)=>(match resA cx fn s with|some r=>r.beq (.r (.c (.lit l)))|none=>false)
 | none=>false
section
variable{P:Program}{T:Nat→Fact}{cx:Cx}{A0 M:Nat→Prop}{w0:World}{σs:Sg}
theorem wpL_snoc{y:Code}{Q:Exit→Act→World→Prop}:∀{t:List Code} {a:Act} {w:World},wpL P (t++[y]) Q a w→wpL P t (Exit.then (y.wp P Q) Q) a w
 | [],a,w,h=>wp_mono h fun e a w h=>by cases e<;>exact h
 | c :: t,a,w,h=>by
  refine wp_mono (show c.wp P (Exit.then (wpL P (t++[y]) Q) Q) a w from h) fun e a w h=>?_
  cases e with
  | normal=>exact wpL_snoc h
  | _=>exact h
theorem evCL_sound(C:CxOk P T cx)(hm:P.follows .mixedOrders=true)(hcu:cx.cuts=[])(n:Nat):∀{l:List Code} {σ:Sg} {s s1:AS} {e:Ex} {a:Act} {w:World} {Q:Exit→Act→World→Prop},
  Rel T cx A0 M w0 σs σ s a w→evCL cx n l s=some (e,s1)→(∀ σ' a' w',Rel T cx A0 M w0 σs σ' s1 a' w'→Q e.exit' a' w')→wpL P l Q a w
 | [],σ,s,s1,e,a,w,Q,R,h,hK=>by cases h; exact hK σ a w R
 | c :: l,σ,s,s1,e,a,w,Q,R,h,hK=>by
  unfold evCL at h
  have hz:∀ k∈cx.cuts,(k.pre.low && k.pre.blocks.all (fun b=>match b with|.live ab|.lent ab=>okCells cx ab.cells|_=>true))=true:=fun k hk=>by rw[hcu] at hk; cases hk
  split at h
  ·rename_i s2 h1
   exact(evC_sound C hm (.inl hcu) hz n (fun z _ k hk=>by rw[hcu] at hk; cases hk) R h1 fun σ' a' w' R'=>evCL_sound C hm hcu n R' h hK).1
  ·rename_i r hne
   refine(evC_sound C hm (.inl hcu) hz n (fun z _ k hk=>by rw[hcu] at hk; cases hk) R h fun σ' a' w' R'=>?_).1
   cases e with
   | normal=>exact absurd h (hne _)
   | ret=>exact hK σ' a' w' R'
   | exit id=>exact hK σ' a' w' R'
theorem sound_splitF(C:CxOk P T cx)(hm:P.follows .mixedOrders=true)(hcu:cx.cuts=[]):∀{c:Code} {σ:Sg} {s s1:AS} {a:Act} {w:World} {Q:Exit→Act→World→Prop} (n:Nat) (h r:Code) (t:List Code),splitF c=some (h,r,t) →
  Rel T cx A0 M w0 σs σ s a w→evC cx n h s=some (.normal,s1) →
  (∀ σ' a' w',Rel T cx A0 M w0 σs σ' s1 a' w'→r.wp P (Exit.then (wpL P t Q) Q) a' w')→c.wp P Q a w:=by
 intro c
 induction c with
 | seq x y ihx ihy =>
  intro σ s s1 a w Q n h r t hs R he hK
  unfold splitF at hs
  split at hs
  ·cases hs
   cases n with
   | zero=>cases he
   | succ n =>
    simp only[evC] at he
    cases he
    exact wp_seq (wp_mono (hK σ a w R) fun e a w h=>by
     cases e with
     | normal=>exact wp_mono (show y.wp P (Exit.then (wpL P [] Q) Q) a w from h) fun e a w h=>by cases e<;>exact h
     | _=>exact h)
  ·split at hs
   ·rename_i x' hx p q u hq
    cases hs
    refine wp_seq (ihx n _ _ _ hq R he fun σ' a' w' R'=>wp_mono (hK σ' a' w' R') fun e a w h=>?_)
    cases e with
    | normal=>exact wpL_snoc h
    | _=>exact h
   ·split at hs
    ·rename_i x' hx hxn p q u hq
     cases hs
     cases n with
     | zero=>cases he
     | succ n =>
      simp only[evC] at he
      split at he
      ·rename_i s2 h1
       exact wp_seq (evC_sound C hm (.inl hcu) (fun k hk=>by rw[hcu] at hk; cases hk) n (fun z _ k hk=>by rw[hcu] at hk; cases hk) R h1 fun σ' a' w' R'=>ihy n _ _ _ hq R' he hK).1
      ·rename_i r' h1
       exact absurd he (h1 _)
    ·cases hs
 | block id x ih =>
  intro σ s s1 a w Q n h r t hs R he hK
  unfold splitF at hs
  split at hs
  ·rename_i e; cases e
  ·rename_i e; cases e; cases hs
   cases n with
   | zero=>cases he
   | succ n =>
    simp only[evC] at he
    cases he
    exact wp_mono (hK σ a w R) fun e a w h=>by cases e<;>exact h
  ·cases hs
 | _=>intro σ s s1 a w Q n h r t hs; cases hs
theorem putObj_self{w:World}{D:Nat}{o o':Obj}(h:w.heap[D]?=some o):(w.putObj D o').heap[D]?=some o':=by
 have hlt:D<w.heap.size:=(Array.getElem?_eq_some_iff.1 h).1
 simp[World.putObj,hlt]
theorem Rel.again{cx':Cx}{σ:Sg}{s:AS}{a a':Act}{w w':World}{A1:Nat→Prop}(ht:TOk T cx.ints)(e1:cx.hp=cx'.hp)(e2:cx.ints=cx'.ints)(htm:a'.tmps=a.tmps)(hd:a'.defers=cx'.dfs)(hk:Kp w w' (Al A0 σ s.blocks) (Al A1 σ s.blocks))
  (hsame:∀ n,(∃ vs T' fr,w.heap[n]?=some (.cells vs T' fr))→Al A0 σ s.blocks n→w'.heap[n]?=w.heap[n]?) (hlow:∀ n,A1 n→n<w'.heap.size) (hap:∀ n,A1 n→¬∃ b ab,s.blocks[b]?=some (.live ab)∧σ b=some n) (hr:cx'.hp=true→Rcv A1 w') (hA1:∀ n,A0 n→A1 n)
  (R:Rel T cx A0 M w0 σs σ s a w):Rel T cx' A1 (fun n=>∃ b ab,s.blocks[b]?=some (.live ab)∧σ b=some n) w' σ0 σ s a' w' :=
 ⟨by rw[htm]; exact R.size,fun i av h=>by rw[htm]; exact(R.slots i av h).keep ht (Sub.refl _) hk,hd,fun b ab h=>by
  obtain⟨n,h1,h2,h3⟩:=R.blocks b ab h
  refine⟨n,h1,.inr ⟨b,ab,h,h1⟩,(LiveOk_cx e1 e2).1 (h3.keep ht (Sub.refl _) h1 hk (hsame n ?_ (.inr ⟨b,ab,h,h1⟩)))⟩
  obtain⟨vs,rest,h4,_⟩:=h3
  exact⟨_,_,_,h4⟩,fun b ab h=>by
  obtain⟨n,h1,h2,h3⟩:=R.lent b ab h
  refine⟨n,h1,hA1 n h2,(LiveOk_cx e1 e2).1 (h3.keep ht (Sub.refl _) h1 hk (hsame n ?_ (.inl h2)))⟩
  obtain⟨vs,rest,h4,_⟩:=h3
  exact⟨_,_,_,h4⟩,R.inj,R.unborn,R.beyond,BelowM.refl _ _ _,hr,hlow,hap,fun n ⟨b,ab,g1,g2⟩=>Nat.lt_of_lt_of_le (R.lt g1 g2) hk.1,Sub.zero _⟩
end
end Tr
namespace Tr
open Go Go.RowKit Go.Shelf
section
variable{P:Program}{T:Nat→Fact}{cx:Cx}{A0 M:Nat→Prop}{w0:World}{σs:Sg}
theorem ev_rgB(C:CxOk P T cx)(hm:P.follows .mixedOrders=true)(hcu:cx.cuts=[])(hdf:cx.dfs=[]){cx2:Deferred→Cx}(C2:∀ d,CxOk P T (cx2 d))(e1:∀ d,cx.hp=(cx2 d).hp)(e2:∀ d,cx.ints=(cx2 d).ints)(e3:∀ d,(cx2 d).dfs=[d])(e4:∀ d,(cx2 d).cuts=[])
  {f:FuncId} {fn:Func} (hf:P.funcs[f]?=some fn) {c h asg bdy:Code} {t:List Code} {id:Nat} {g:Operand} {ps:Array Tmp} (hb:fn.body=some c) (hs:splitF c=some (h,.block id (.rangeFunc g ps asg bdy),t)) {bs:List AB} {args:List AR} {l:LV} (fuel:Nat) {s1:AS}
  (hbo:bs.all (fun b=>okCells cx b.cells && b.more.isNone)=true) (h1:evC cx fuel h (enter fn bs args)=some (.normal,s1)) {bk:Nat} {ab0 pb:AB} {us0:List Value} (hbk:s1.blocks[bk]?=some (.live ab0)) (hpm:pb.more=none) (hpo:∀ d,okCells (cx2 d) pb.cells=true) (hus:∀(σ:Sg) (W:World) (A:Nat→Prop),oks T σ pb.cells us0 W A)
  (h2:∀ d,endsL (cx2 d) fn l (evCL (cx2 d) fuel t (s1.put none ⟨.junk,[(bk,.live pb)]⟩))=true)
  (hcl:∀(A0:Nat→Prop) (w0:World) (σ:Sg) (a:Act) (w:World),Rel T cx A0 (fun _=>False) w0 σ0 σ s1 a w→∀(Q:Exit→Act→World→Prop) (n:Nat),σ bk=some n →
   (∀(D:Nat) (W:World),w.heap.size≤D→Mod n w W→W.heap[n]?=some (.cells us0.toArray pb.ty (0,0))→W.heap[D]?=some (.deferred (some []))→Q .normal { a with defers:=markD D :: a.defers } W)→(Code.rangeFunc g ps asg bdy).wp P Q a w)
  (σ:Sg) (w:World) (A:Nat→Prop) (vs:List Value) (hR:cx.hp=true→Rcv A w) (hA:∀ n,A n→n<w.heap.size) (hargs:okr T σ args vs w A)
  (hbs:∀ b ab,bs[b]?=some ab→∃ n us,σ b=some n∧A n∧w.heap[n]?=some (.cells us.toArray ab.ty (0,0))∧oks T σ ab.cells us w A) (hbey:∀ b,bs.length≤b→σ b=none) :
  Calls P f vs.toArray w fun r w'=>r=.returned l.val∧Below w.heap.size w w':=by
 rw[List.all_eq_true] at hbo
 refine(callsIn_wide (n:=3)).1 (callsIn_of_wp_marks hf hb trivial (wpIn_wide.2 ?_) rfl)
 have hlen:=hargs.length
 have hnl:∀(b:Nat) (ab:AB),(bs.map BK.lent)[b]?≠some (.live ab):=fun b ab h=>by
  rw[List.getElem?_map] at h
  obtain⟨x,_,e⟩:=Option.map_eq_some_iff.1 h
  cases e
 have hAl:Al A σ (bs.map BK.lent)=A:=by
  funext n; unfold Al
  refine propext ⟨?_,.inl⟩
  rintro(h|⟨b,ab,h,_⟩)
  ·exact h
  ·exact absurd h (hnl b ab)
 have R0:Rel T cx A (fun _=>False) w σ0 σ (enter fn bs args) { tmps:=vs.toArray++Array.replicate (fn.ntmps - vs.toArray.size) undef,defers:=[] } w:=by
  refine⟨?_,?_,hdf.symm,fun b ab h=>absurd h (hnl b ab),fun b ab h=>?_,fun b c n ab ac h=>absurd h (hnl b ab),fun b h=>?_,fun b h=>?_,BelowM.refl _ _ _,hR,hA,fun _ _ h=>h,fun _ h=>h.elim,Sub.zero _⟩
  ·simp[enter,hlen]
  ·show ∀ i (av:AV),(args.map AV.r++List.replicate (fn.ntmps - args.length) AV.undf)[i]?=some av→av.ok T _ _ w (Al A σ (bs.map BK.lent))
   rw[hAl]
   have:fn.ntmps - vs.toArray.size=fn.ntmps - args.length:=by simp[hlen]
   rw[this]
   exact okr_slots hargs
  ·show ∃ n,σ b=some n∧A n∧LiveOk T cx σ (Al A σ (bs.map BK.lent)) w b ab n
   rw[hAl]
   have h':(bs.map BK.lent)[b]?=some (.lent ab):=h
   rw[List.getElem?_map] at h'
   obtain⟨x,hx,e⟩:=Option.map_eq_some_iff.1 h'
   cases e
   obtain⟨n,us,g1,g2,g3,g4⟩:=hbs b ab hx
   have hok:=hbo ab (List.mem_of_getElem? hx)
   simp only[Bool.and_eq_true,Option.isNone_iff_eq_none] at hok
   exact⟨n,g1,g2,us,[],by simpa using g3,g4,hok.1,by simp,by simp,by rw[hok.2]⟩
  ·have h':(bs.map BK.lent)[b]?=some .unborn:=h
   rw[List.getElem?_map] at h'
   obtain⟨x,hx,e⟩:=Option.map_eq_some_iff.1 h'
   cases e
  ·have h':(bs.map BK.lent).length≤b:=h
   exact hbey b (by simpa using h')
 refine sound_splitF C hm hcu fuel _ _ _ hs R0 h1 fun σ1 a1 w1 R1=>?_
 obtain⟨nb,hnb,_,hlo⟩:=R1.blocks bk ab0 hbk
 obtain⟨vs0,rest0,hob,_⟩:=hlo
 have hnbl:nb<w1.heap.size:=(Array.getElem?_eq_some_iff.1 hob).1
 refine wp_block (hcl _ _ _ _ _ R1 _ nb hnb fun D WW hD hMod hnew hm0=>?_)
 show wpL P t _ _ WW
 have hd0:a1.defers=[]:=R1.defers.trans hdf
 obtain⟨W,hWdef⟩:∃ W:World,W=WW.putObj nb (.cells (vs0++rest0).toArray ab0.ty (0,0)):=⟨_,rfl⟩
 have hnW:W.heap[nb]?=some (.cells (vs0++rest0).toArray ab0.ty (0,0)):=by rw[hWdef]; exact putObj_self hnew
 have hsW:W.heap.size=WW.heap.size:=by rw[hWdef]; simp[World.putObj]
 have hoW:∀ k,k≠nb→W.heap[k]?=WW.heap[k]?:=fun k hk=>by rw[hWdef]; exact World.putObj_heap_other hk
 have hW:Below w1.heap.size w1 W:=⟨by rw[hWdef]; exact hMod.os,by rw[hWdef]; exact hMod.tape,by rw[hWdef]; exact hMod.output,by rw[hsW]; exact hMod.size,fun k hk=>by
  by_cases e:k=nb
  ·subst e; exact hnW.trans hob.symm
  ·exact(hoW k e).trans (hMod.block k hk e)⟩
 have hm1:W.heap[D]?=some (.deferred (some [])):=(hoW D (by omega)).trans hm0
 have hDW:D<W.heap.size:=(Array.getElem?_eq_some_iff.1 hm1).1
 have hMW:Mod nb W WW:=⟨by rw[hWdef]; rfl,by rw[hWdef]; rfl,by rw[hWdef]; rfl,by omega,fun k _ hk=>(hoW k hk).symm⟩
 have hlv:∀ n,(∃ b ab,s1.blocks[b]?=some (.live ab)∧σ1 b=some n)→w.heap.size≤n∧n<w1.heap.size:=by
  rintro n ⟨b,ab,g1,g2⟩
  obtain⟨m,g3,g4,_⟩:=R1.blocks b ab g1
  rw[g2] at g3; cases g3
  exact⟨g4.resolve_right (fun h=>h),R1.lt g1 g2⟩
 have hws:w.heap.size≤w1.heap.size:=R1.below.size
 have R3:Rel T (cx2 (markD D)) (fun n=>A n∨n=D) (fun n=>∃ b ab,s1.blocks[b]?=some (.live ab)∧σ1 b=some n) W σ0 σ1 s1 { a1 with defers:=markD D :: a1.defers } W:=by
  refine Rel.again (a:=a1) (R:=R1) C.table (e1 _) (e2 _) rfl (by rw[e3,hd0]) (A1:=fun n=>A n∨n=D) ⟨hW.size,fun b g1 g2=>⟨hW.block b g1,?_⟩⟩ (fun n _ hn=>hW.block n (R1.low' n hn)) ?_ ?_ ?_ (fun n h=>.inl h)
  ·rintro((h|h)|h)
   ·exact g2 (.inl h)
   ·omega
   ·exact g2 (.inr h)
  ·rintro n (h|h)
   ·exact Nat.lt_of_lt_of_le (hA n h) (Nat.le_trans hws hW.size)
   ·omega
  ·rintro n (h|h) hl
   ·have:=hA n h; have:=(hlv n hl).1; omega
   ·have:=(hlv n hl).2; omega
  ·rintro hp' n (h|h)
   ·obtain⟨z,h3,h4⟩:=R1.rcv (by rw[e1 (markD D)]; exact hp') n h
    exact⟨z,(hW.block n (Nat.lt_of_lt_of_le (hA n h) hws)).trans h3,h4⟩
   ·subst h
    exact⟨_,hm1,fun cs T' fr e=>by cases e⟩
 have fin:∀(σ':Sg) (s2:AS) (a':Act) (w':World),Rel T (cx2 (markD D)) (fun n=>A n∨n=D) (fun n=>∃ b ab,s1.blocks[b]?=some (.live ab)∧σ1 b=some n) W σ0 σ' s2 a' w'→(match resA (cx2 (markD D)) fn s2 with|some r=>r.beq (.r (.c (.lit l)))|none=>false)=true →
   bodyPostM Fence.wide 3 P fn (fun r w'=>r=.returned l.val∧Below w.heap.size w w') .ret a' w':=fun σ' s2 a' w' R' hr=>by
  cases hx:resA (cx2 (markD D)) fn s2 with
  | none=>simp[hx] at hr
  | some r =>
   simp only[hx] at hr
   have:=AV.eq_of hr
   subst this
   have hD':w'.heap[D]?=some (.deferred (some [])):=(R'.below.block D hDW (fun hm'=>by have:=(hlv D hm').2; omega)).trans hm1
   have hbw:Below w.heap.size w w':=by
    have h3:Below w.heap.size w w1:=R1.below.below
    have h4:Below w.heap.size w1 W:=⟨hW.os,hW.tape,hW.output,hW.size,fun b hb=>hW.block b (by omega)⟩
    exact(h3.trans h4).trans ⟨R'.below.os,R'.below.tape,R'.below.output,R'.below.size,fun b hb=>R'.below.block b (by have:=hW.size; omega) (fun hm'=>by have:=(hlv b hm').1; omega)⟩
   have hdd:a'.defers=[markD D]:=R'.defers.trans (e3 _)
   have R4:Rel T (cx2 (markD D)) (fun n=>A n∨n=D) (fun n=>∃ b ab,s2.blocks[b]?=some (.live ab)∧σ' b=some n) (w'.putObj D (.deferred none)) σ0 σ' s2 a' (w'.putObj D (.deferred none)):=by
    have hsz:(w'.putObj D (.deferred none)).heap.size=w'.heap.size:=by simp[World.putObj]
    have hoth:∀ n,n≠D→(w'.putObj D (.deferred none)).heap[n]?=w'.heap[n]?:=fun n h=>World.putObj_heap_other h
    refine Rel.again (R:=R') (C2 _).table rfl rfl rfl R'.defers (A1:=fun n=>A n∨n=D) ⟨Nat.le_of_eq hsz.symm,fun b g1 g2=>⟨hoth b (fun h=>g2 (.inl (.inr h))),g2⟩⟩ (fun n hc _=>hoth n (fun h=>by subst h; obtain⟨vs',T',fr,hc⟩:=hc; rw[hD'] at hc; cases hc)) ?_ ?_ ?_ (fun n h=>h)
    ·intro n h
     rw[hsz]
     exact Nat.lt_of_lt_of_le (R'.low n h) R'.below.size
    ·rintro n h ⟨b,ab,g1,g2⟩
     obtain⟨m,g3,g4,_⟩:=R'.blocks b ab g1
     rw[g2] at g3; cases g3
     rcases g4 with g4|g4
     ·have:=R'.low n h; omega
     ·exact R'.apart n h g4
    ·intro hp' n h
     obtain⟨z,h3,h4⟩:=R'.rcv hp' n h
     by_cases hn:n=D
     ·subst hn
      exact⟨_,putObj_self hD',fun cs T' fr e=>by cases e⟩
     ·exact⟨z,(hoth n hn).trans h3,h4⟩
   obtain⟨v,k1,k2⟩:=resA_ok (C2 _) R4 hx
   have hv:v=l.val:=k2
   subst hv
   obtain⟨tm,df⟩:=a'
   simp only at hdd k1
   subst hdd
   exact Go.Proofs.YthklnbaddobieaaGreat.leave_marks (v:=l.val) hD' k1 ⟨rfl,Go.Proofs.YthklnbaddobieaaGreat.below_putObj hbw (Nat.le_trans hws hD) _⟩
 have R5:=Rel.puts (C2 (markD D)).table R3 hbk hnb hMW hpm (hpo _) hnew (hus _ _ _) (av:=.junk) (v:=undef) trivial none
 have hh:=h2 (markD D)
 unfold endsL at hh
 split at hh
 ·cases hh
 ·rename_i e s2 hne he
  refine evCL_sound (C2 _) hm (e4 _) fuel R5 he fun σ' a' w' R'=>?_
  cases e with
  | normal=>exact fin σ' s2 a' w' R' hh
  | ret=>exact fin σ' s2 a' w' R' hh
  | exit id=>exact(hne id rfl).elim
 ·cases hh
end
end Tr
namespace Go.Proofs.YthklnbaddobieaaGreat
open Go.RowKit Tr
end Go.Proofs.YthklnbaddobieaaGreat
set_option linter.unusedSimpArgs false
namespace Tr
open Ieee
end Tr
namespace Go.Proofs.YthklnbaddobieaaGreat
open Go.RowKit Tr
end Go.Proofs.YthklnbaddobieaaGreat
set_option linter.unusedSimpArgs false
namespace Tr
open Ieee
end Tr
namespace Go.Proofs.YthklnbaddobieaaGreat
open Go.RowKit Tr
structure BelI(q:Rat) where
 lo:Nat
 hi:Nat
 h:Half (uq q) lo hi
def BelI.mid{q:Rat}(i:BelI q):Nat:=i.hi - (i.hi - i.lo) / 2
end Go.Proofs.YthklnbaddobieaaGreat
set_option linter.unusedSimpArgs false
namespace Tr
open Ieee
end Tr
namespace Go.Proofs.YthklnbaddobieaaGreat
open Go.RowKit Tr
end Go.Proofs.YthklnbaddobieaaGreat
set_option linter.unusedSimpArgs false
namespace Tr
open Ieee
end Tr
namespace Go.Proofs.YthklnbaddobieaaGreat
open Go.RowKit Tr
end Go.Proofs.YthklnbaddobieaaGreat
set_option linter.unusedSimpArgs false
namespace Tr
open Ieee
def w3:Nat:=4599676419421066581
theorem third_pos:(0:Rat)≤1 / 3:=by decide +kernel
theorem third_uq{L:Nat}(hL:L+54=UU):uq (1 / 3)=1 / 3*(18014398509481984*((2 ^ L:Nat):Rat)):=by
 rw[uq_pos third_pos,←hL,Nat.pow_add,Nat.mul_comm,Rat.natCast_mul]; rfl
theorem third_bt{L:Nat}(hL:L+54=UU):Bt L 6004799503160661=w3:=by unfold Bt w3; rw[UU_eq] at hL; omega
theorem third_nf{L:Nat}:Nf L 6004799503160661:=⟨by decide,.inr (by decide)⟩
theorem third_lo(L:Nat):((6004799503160661*2 ^ L:Nat):Rat)≤1 / 3*(18014398509481984*((2 ^ L:Nat):Rat))∧¬((6004799503160661*2 ^ L:Nat):Rat)=1 / 3*(18014398509481984*((2 ^ L:Nat):Rat)) ∧
  1 / 3*(18014398509481984*((2 ^ L:Nat):Rat))<(((6004799503160661+1)*2 ^ L:Nat):Rat)∧2*(1 / 3*(18014398509481984*((2 ^ L:Nat):Rat)))<(((2*6004799503160661+1)*2 ^ L:Nat):Rat):=by
 have hp:=two_pos L
 rw[Rat.natCast_mul,Rat.natCast_mul,Rat.natCast_mul]
 rw[show((6004799503160661:Nat):Rat)=6004799503160661 from rfl,show((6004799503160661+1:Nat):Rat)=6004799503160662 from rfl,show((2*6004799503160661+1:Nat):Rat)=12009599006321323 from rfl]
 generalize ((2 ^ L:Nat):Rat)=p at *
 refine⟨?_,?_,?_,?_⟩<;>grind
theorem third_L:∃ L,L+54=UU:=⟨UU - 54,by rw[UU_eq]⟩
theorem third_below:bel (uq (1 / 3))=w3:=by
 obtain⟨L,hL⟩:=third_L
 obtain⟨h1,_,h3,_⟩:=third_lo L
 refine below0_fun (bel_spec (uq_nonneg _)) ⟨by decide,?_,fun _=>?_⟩
 ·rw[←third_bt hL,VV_bt third_nf,third_uq hL]; exact h1
 ·rw[←third_bt hL,VV_succ third_nf,third_uq hL]; exact h3
theorem third_near:NearB (uq (1 / 3)) w3:=by
 obtain⟨L,hL⟩:=third_L
 obtain⟨h1,_,h3,h4⟩:=third_lo L
 rw[third_uq hL]
 exact⟨L,6004799503160661,third_nf,h1,h3,.inl ⟨(third_bt hL).symm,.inl h4⟩⟩
theorem third_ne:¬(VV w3:Rat)=uq (1 / 3):=by
 obtain⟨L,hL⟩:=third_L
 obtain⟨_,h2,_,_⟩:=third_lo L
 rw[←third_bt hL,VV_bt third_nf,third_uq hL]; exact h2
theorem third_nlt:¬(1 / 3:Rat)<0:=Rat.not_lt.2 third_pos
theorem third_up:upQ (1 / 3)=some (w3+1):=by
 unfold upQ; rw[if_neg third_nlt,third_below,if_neg third_ne,if_neg (by decide)]
theorem third_down:downQ (1 / 3)=some w3:=by unfold downQ; rw[if_neg third_nlt,third_below]
def FinO(r:Option Nat):Prop:=∀ y,r=some y→∃ s b,b≤GW∧y=pz s b
theorem pz0(b:Nat):pz false b=b:=by unfold pz; split; (rename_i e; exact e.symm); rfl
def ecd(r:Option Nat):Int:=match r with|some _=>0|none=>6
end Tr
namespace Go.Proofs.YthklnbaddobieaaGreat
open Go.RowKit Tr
theorem flt_ex(q:Rat):∃ r,FltA q r∧FinO r:=by
 obtain⟨x,B,h,_⟩:=f64_ex q
 refine⟨_,⟨B,h,rfl⟩,fun y hy=>?_⟩
 split at hy
 ·rename_i hg; cases hy; exact⟨_,B,hg,rfl⟩
 ·cases hy
theorem third_flt:FltA (1 / 3) (some w3):=⟨w3,third_near,by rw[if_pos (by decide),show decide ((1 / 3:Rat)<0)=false from decide_eq_false third_nlt]; rfl⟩
theorem upG(r:Option Nat):upV r=.tup [.c (gx (.float .f64 (r.getD 0))),.c (gx (.int .i64 (ecd r)))]:=by cases r<;>rfl
theorem short_third:ShortF (1 / 3):=by decide +kernel
theorem lSmall:SpecC Tryz.prog false 34 [.c (gx (.int .i64 1)),.c (gx (.int .i64 3))] (.r (F1 (1 / 3:Rat))):=by
 have h:=fsmall 1 3 (by decide) (by decide) (by decide) (by decide) (by decide)
 rw[show Rat.divInt 1 3=(1 / 3:Rat) by decide +kernel] at h
 exact spec_pure eo34 h (by kernel_rfl) (by kernel_rfl)
theorem lLong(f:RwF)(n:Int)(b:Bool)(hb:b=true↔n<(f.s1.size:Int)∨n<(f.s2.size:Int)):SpecC Tryz.prog true 8 [.c (gx (.int .i64 n)),.row f.cells] (.r (.c (gx (.bool b)))):=by
 by_cases h1:n<(f.s1.size:Int)
 ·obtain rfl:b=true:=hb.2 (.inl h1)
  exact ev_sp (L:=f.cells++[gx (.int .i64 n),gx (.int .i64 (f.s1.size:Nat))]) tys_ok mixed [] [gbInt .gtr 3 .i64 (.sym 5) (.sym 4) _ _ true (congrArg some (decide_eq_true h1)) (by kernel_rfl) (by kernel_rfl)]
   [goLenS 9 Tryz.underlying9 (.sym 1) f.s1 (.sym 5) (by kernel_rfl) (by kernel_rfl) (by kernel_rfl)]
   Tryz.func8 eo8 100 [.c (.sym 4),.row [.sym 0,.sym 1,.sym 2,.sym 3]] (.r (.c (.lit (.bool true))))
 ·have hb':decide (n<(f.s2.size:Int))=b:=by rw[Bool.eq_iff_iff,decide_eq_true_eq,hb]; simp[h1]
  exact ev_sp (L:=f.cells++[gx (.int .i64 n),gx (.int .i64 (f.s1.size:Nat)),gx (.int .i64 (f.s2.size:Nat)),gx (.bool b)]) tys_ok mixed [] [gbInt .gtr 3 .i64 (.sym 5) (.sym 4) _ _ false (congrArg some (decide_eq_false h1)) (by kernel_rfl) (by kernel_rfl),gb .gtr 3 (.c (.sym 6)) (.c (.sym 4)) (.sym 7) (int_cmp .gtr _ .i64 _ _ b (congrArg some hb')) (by kernel_rfl) (by kernel_rfl) (by kernel_rfl)]
   [goLenS 9 Tryz.underlying9 (.sym 1) f.s1 (.sym 5) (by kernel_rfl) (by kernel_rfl) (by kernel_rfl),goLenS 9 Tryz.underlying9 (.sym 3) f.s2 (.sym 6) (by kernel_rfl) (by kernel_rfl) (by kernel_rfl)]
   Tryz.func8 eo8 100 [.c (.sym 4),.row [.sym 0,.sym 1,.sym 2,.sym 3]] (.r (.c (.sym 7)))
theorem lKnown:SpecC Tryz.prog true 9 [] (B1 true):=by
  have h1:=nFloat_any (1 / 3) short_third third_flt
  have h2:=nUp_ok (1 / 3) short_third
  have h3:=nDown_ok (1 / 3) short_third
  rw[third_up] at h2
  rw[third_down] at h3
  exact ev_sp (L:=rF (1 / 3)++[gx (.float .f64 w3),gx (.float .f64 (w3+1))]) tys_ok mixed
    [gs lSmall [.c (.lit (.int .i64 1)),.c (.lit (.int .i64 3))] (.r (.row [.sym 0,.sym 1,.sym 2,.sym 3])),gs h1 [.row [.sym 0,.sym 1,.sym 2,.sym 3]] (.tup [.c (.sym 4),.c (.lit (.int .i64 0))]),gs h2 [.row [.sym 0,.sym 1,.sym 2,.sym 3]] (.tup [.c (.sym 5),.c (.lit (.int .i64 0))]),gs h3 [.row [.sym 0,.sym 1,.sym 2,.sym 3]] (.tup [.c (.sym 4),.c (.lit (.int .i64 0))])]
    []
    [goExt 20 [.c (.sym 4)] (.c (.lit (.int .u64 4599676419421066581))) (fun w=>bits_of w3 w) (by kernel_rfl) (by kernel_rfl),
     goExt 20 [.c (.sym 5)] (.c (.lit (.int .u64 4599676419421066582))) (fun w=>bits_of (w3+1) w) (by kernel_rfl) (by kernel_rfl)]
    Tryz.func9 eo9 100 [] (.r (.c (.lit (.bool true))))
end Go.Proofs.YthklnbaddobieaaGreat
namespace Tr
open Ieee
theorem uq_fq{s:Bool}{b:Nat}(hb:b≤GW):uq (fq s b)=((VV b:Nat):Rat):=by
 have h:=fq_units s b
 have hu:=two_pos UU
 cases s
 ·have h0:(0:Rat)≤fq false b:=by
   unfold fq sgv
   rw[if_neg (by decide)]
   rw[Rat.div_def]
   exact Rat.mul_nonneg (by exact_mod_cast Nat.zero_le _) (Rat.le_of_lt (Rat.inv_pos.2 hu))
  rw[uq_pos h0]; simpa using h
 ·have e:fq true b=-fq false b:=fq_neg false b
  have h0:(0:Rat)≤fq false b:=by
   unfold fq sgv
   rw[if_neg (by decide)]
   rw[Rat.div_def]
   exact Rat.mul_nonneg (by exact_mod_cast Nat.zero_le _) (Rat.le_of_lt (Rat.inv_pos.2 hu))
  have h2:=fq_units false b
  rw[e,uq_opp,uq_pos h0]; simpa using h2
theorem bel_VV{b:Nat}(hb:b≤GW):bel ((VV b:Nat):Rat)=b :=
 below0_fun (bel_spec (by exact_mod_cast Nat.zero_le _)) ⟨hb,Rat.le_refl,fun _=>by exact_mod_cast VV_lt b⟩
theorem thr_gw{b:Nat}(hb:b≤GW):((VV b:Nat):Rat)<(thrN:Rat):=by exact_mod_cast Nat.lt_of_le_of_lt (VV_le hb) vv_lt_thr
theorem fq_nonneg(b:Nat):¬fq false b<0:=by
 unfold fq sgv
 rw[if_neg (by decide),Rat.div_def]
 exact Rat.not_lt.2 (Rat.mul_nonneg (by exact_mod_cast Nat.zero_le _) (Rat.le_of_lt (Rat.inv_pos.2 (two_pos UU))))
theorem fq_zero(s:Bool):fq s 0=0:=by unfold fq; rw[show sgv s 0=0 from sgv_zero.2 rfl,Rat.div_def]; exact Rat.zero_mul _
theorem fq_sign{s:Bool}{b:Nat}(h0:b≠0):decide (fq s b<0)=s:=by
 cases s
 ·exact decide_eq_false (fq_nonneg b)
 ·have e:fq true b=-fq false b:=fq_neg false b
  refine decide_eq_true ?_
  have h1:=fq_units true b
  have hu:=two_pos UU
  have hp:(0:Rat)<((VV b:Nat):Rat):=by exact_mod_cast Nat.lt_of_le_of_lt (Nat.zero_le (VV 0)) (VV_mono (Nat.pos_of_ne_zero h0))
  by_cases c:fq true b<0
  ·exact c
  ·exfalso
   have:=Rat.mul_nonneg (Rat.not_lt.1 c) (Rat.le_of_lt hu)
   rw[h1,if_pos rfl] at this
   grind
theorem up_fq{s:Bool}{b:Nat}(hb:b≤GW):upQ (fq s b)=some (pz s b):=by
 unfold upQ
 rw[uq_fq hb,bel_VV hb]
 by_cases h0:b=0
 ·subst h0; rw[fq_zero,if_neg (by decide),if_pos rfl]; cases s<;>rfl
 ·have hs:=fq_sign (s:=s) h0
  cases s
  ·rw[if_neg (of_decide_eq_false hs),if_pos rfl,pz0]
  ·rw[if_pos (of_decide_eq_true hs)]
theorem down_fq{s:Bool}{b:Nat}(hb:b≤GW):downQ (fq s b)=some (pz s b):=by
 unfold downQ
 by_cases h0:b=0
 ·subst h0
  rw[fq_zero,if_neg (by decide),bel_zero]; cases s<;>rfl
 ·have hs:=fq_sign (s:=s) h0
  cases s
  ·rw[if_neg (of_decide_eq_false hs),uq_fq hb,bel_VV hb,pz0]
  ·rw[if_pos (of_decide_eq_true hs)]
   have e:-fq true b=fq false b:=by rw[show fq true b=-fq false b from fq_neg false b]; grind
   rw[e,up_fq hb,pz0]
   unfold pz; rfl
theorem pz_dec{s:Bool}{b:Nat}:pz (decide (fq s b<0)) b=pz s b:=by
 by_cases h0:b=0
 ·subst h0; rfl
 ·rw[fq_sign h0]
end Tr
namespace Go.Proofs.YthklnbaddobieaaGreat
open Go.RowKit Tr
theorem flt_fq{s:Bool}{b:Nat}(hb:b≤GW):FltA (fq s b) (some (pz s b)):=by
 obtain⟨x,B,h,_⟩:=f64_ex (fq s b)
 have hB:NearB (uq (fq s b)) B:=h
 have hB':=hB
 rw[uq_fq hb] at hB'
 have hc:=near_cases hB' (⟨hb,Rat.le_refl,fun _=>by exact_mod_cast VV_lt b⟩) (thr_gw hb)
 have e:B=b:=by
  rcases hc.1 with e|⟨_,h1,_⟩
  ·exact e
  ·exact absurd h1 Rat.lt_irrefl
 subst e
 exact⟨B,hB,by rw[if_pos hb,pz_dec]⟩
end Go.Proofs.YthklnbaddobieaaGreat
