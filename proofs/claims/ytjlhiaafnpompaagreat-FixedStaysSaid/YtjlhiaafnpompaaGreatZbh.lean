/- Laws for the walk. -/
import Derived.Test.YtjlhiaafnpompaaGreatZbg
import Derived.RangeFuncNested
import Derived.RangeFuncBound
import Derived.RangeFuncCalls
import Derived.RangeFuncLeaves
import Derived.RangeFuncBox
import Derived.Shelf.Abstract
import Derived.Shelf.RegionOpen
import Derived.OwnWalkIn
import Derived.TacticsInMore
import Derived.LoopNIn
import Derived.LoopIn
set_option linter.unusedVariables false
set_option maxHeartbeats 4000000
namespace Go.Proofs.YtjlhiaafnpompaaGreat
open Go.RowKit Tr
def smul(u:QC)(p:QC×QC×QC×QC):QC×QC×QC×QC:=(u*p.1,u*p.2.1,u*p.2.2.1,u*p.2.2.2)
def stp(t:Bool)(a b c d:QC)(p:QC×QC×QC×QC):QC×QC×QC×QC :=
 if t then(a*cj p.1+b*cj p.2.2.1,a*cj p.2.1+b*cj p.2.2.2,c*cj p.1+d*cj p.2.2.1,c*cj p.2.1+d*cj p.2.2.2)
 else(a*p.1+b*p.2.2.1,a*p.2.1+b*p.2.2.2,c*p.1+d*p.2.2.1,c*p.2.1+d*p.2.2.2)
def pw(t:Bool)(a b c d:QC)(k:Nat):QC×QC×QC×QC:=if t then mtn a b c d k else mp a b c d k
theorem pw_zero(t:Bool)(a b c d:QC):pw t a b c d 0=(a,b,c,d):=by cases t<;>rfl
theorem pw_succ(t:Bool)(a b c d:QC)(k:Nat):pw t a b c d (k+1)=stp t a b c d (pw t a b c d k):=by cases t<;>rfl
theorem stp_smul(t:Bool)(a b c d u:QC)(p:QC×QC×QC×QC):stp t a b c d (smul u p)=smul (if t then cj u else u) (stp t a b c d p):=by
 obtain⟨p,q,r,s⟩:=p
 cases t
 ·simp only[stp,smul,Bool.false_eq_true,if_false]
  refine Prod.ext ?_ (Prod.ext ?_ (Prod.ext ?_ ?_))<;>apply qc_ext<;>simp only[qmr,qmi,qar,qai]<;>grind
 ·simp only[stp,smul,if_true,cj]
  refine Prod.ext ?_ (Prod.ext ?_ (Prod.ext ?_ ?_))<;>apply qc_ext<;>simp only[qmr,qmi,qar,qai]<;>grind
theorem smul_smul(u v:QC)(p:QC×QC×QC×QC):smul u (smul v p)=smul (u*v) p:=by
 obtain⟨p,q,r,s⟩:=p
 simp only[smul]
 refine Prod.ext ?_ (Prod.ext ?_ (Prod.ext ?_ ?_))<;>apply qc_ext<;>simp only[qmr,qmi]<;>grind
theorem cj_ne{u:QC}(h:u≠⟨0,0⟩):cj u≠⟨0,0⟩:=fun e=>h (qc_ext (by have:u.re=0:=congrArg QC.re e; exact this) (by have:-u.im=0:=congrArg QC.im e; show u.im=0; grind))
theorem mul_ne{u v:QC}(h:u≠⟨0,0⟩)(k:v≠⟨0,0⟩):u*v≠⟨0,0⟩:=fun e=>(qmul0.1 e).elim h k
def Nf(p:QC×QC×QC×QC):Prop:=p.2.2.1=⟨1,0⟩∨(p.2.2.1=⟨0,0⟩∧p.2.2.2=⟨1,0⟩)
theorem one_scal{p q:QC×QC×QC×QC}{u:QC}(hu:u≠⟨0,0⟩)(h:p=smul u q)(hn:Nf q):Scal p↔q=(⟨1,0⟩,⟨0,0⟩,⟨0,0⟩,⟨1,0⟩):=by
 obtain⟨a,b,c,d⟩:=q
 subst h
 simp only[Scal,smul,qmul0,hu,false_or,Nf] at hn ⊢
 constructor
 ·rintro⟨rfl,rfl,h⟩
  rcases hn with hn|⟨_,rfl⟩
  ·exact absurd (congrArg QC.re hn) (by decide)
  ·have h1:a=⟨1,0⟩:=by
    have e:u*(a - ⟨1,0⟩)=⟨0,0⟩:=by
     have e1:=congrArg QC.re h
     have e2:=congrArg QC.im h
     simp only[qmr,qmi] at e1 e2
     apply qc_ext<;>simp only[qmr,qmi,qsr,qsi]<;>grind
    exact qc_sub0.1 ((qmul0.1 e).elim (fun k=>absurd k hu) id)
   rw[h1]
 ·intro h
  simp only[Prod.mk.injEq] at h
  obtain⟨rfl,rfl,rfl,rfl⟩:=h
  exact⟨rfl,rfl,rfl⟩
theorem pow_chain{t:Bool}{a b c d:QC}{X:Nat→QC×QC×QC×QC}{n:Nat}(h0:X 0=(a,b,c,d))
  (hs:∀ k,k<n→∃ u,u≠⟨0,0⟩∧stp t a b c d (X k)=smul u (X (k+1))):∀ k,k≤n→∃ u,u≠⟨0,0⟩∧pw t a b c d k=smul u (X k):=by
 intro k
 induction k with
 | zero =>
  intro _
  refine⟨⟨1,0⟩,by decide,?_⟩
  rw[pw_zero,h0]
  simp only[smul]
  refine Prod.ext ?_ (Prod.ext ?_ (Prod.ext ?_ ?_))<;>apply qc_ext<;>simp only[qmr,qmi]<;>grind
 | succ k ih =>
  intro hk
  obtain⟨u,hu,e⟩:=ih (by omega)
  obtain⟨v,hv,e2⟩:=hs k (by omega)
  refine⟨(if t then cj u else u)*v,mul_ne (by cases t; exact hu; exact cj_ne hu) hv,?_⟩
  rw[pw_succ,e,stp_smul,e2,smul_smul]
def dq(p:QC×QC×QC×QC):QC:=p.1*p.2.2.2 - p.2.1*p.2.2.1
theorem dq_stp{t:Bool}{a b c d:QC}{p:QC×QC×QC×QC}(h:a*d - b*c≠⟨0,0⟩)(k:dq p≠⟨0,0⟩):dq (stp t a b c d p)≠⟨0,0⟩:=by
 obtain⟨p,q,r,s⟩:=p
 cases t
 ·have e:dq (stp false a b c d (p,q,r,s))=(a*d - b*c)*dq (p,q,r,s):=by
   simp only[dq,stp,Bool.false_eq_true,if_false]
   apply qc_ext<;>simp only[qmr,qmi,qar,qai,qsr,qsi]<;>grind
  rw[e]
  exact mul_ne h k
 ·have e:dq (stp true a b c d (p,q,r,s))=(a*d - b*c)*cj (dq (p,q,r,s)):=by
   simp only[dq,stp,if_true,cj]
   apply qc_ext<;>simp only[qmr,qmi,qar,qai,qsr,qsi]<;>grind
  rw[e]
  exact mul_ne h (cj_ne k)
theorem dq_smul{u:QC}{p:QC×QC×QC×QC}(h:dq (smul u p)≠⟨0,0⟩):dq p≠⟨0,0⟩:=fun e=>h (by
 have:dq (smul u p)=u*u*dq p:=by
  obtain⟨p,q,r,s⟩:=p
  simp only[dq,smul]
  apply qc_ext<;>simp only[qmr,qmi,qsr,qsi]<;>grind
 rw[this,e]
 exact qmul0.2 (.inr rfl))
theorem dq_cd{p:QC×QC×QC×QC}(h:dq p≠⟨0,0⟩)(hc:p.2.2.1=⟨0,0⟩):p.2.2.2≠⟨0,0⟩:=fun hd=>h (by
 unfold dq
 rw[hc,hd]
 apply qc_ext<;>simp only[qmr,qmi,qsr,qsi]<;>grind)
end Go.Proofs.YtjlhiaafnpompaaGreat
namespace Go.Proofs.YtjlhiaafnpompaaGreat
open Go.RowKit Tr
abbrev Q4:=QC×QC×QC×QC
def by4(p:Q4):QC:=if p.2.2.1=⟨0,0⟩ then p.2.2.2 else p.2.2.1
def nm4(p:Q4):Q4:=(p.1 / by4 p,p.2.1 / by4 p,p.2.2.1 / by4 p,p.2.2.2 / by4 p)
def ZL4(p:Q4)(k:Nat):Prop:=ZL p.1 k∧ZL p.2.1 k∧ZL p.2.2.1 k∧ZL p.2.2.2 k
def Sh4(p:Q4):Prop:=ShortZ p.1∧ShortZ p.2.1∧ShortZ p.2.2.1∧ShortZ p.2.2.2
def mR(p:Q4)(t:Bool):List GF:=cn p.1++cn p.2.1++cn p.2.2.1++cn p.2.2.2++[gl (.bool t)]
def mQ(p:Q4)(t:Bool):List GF:=(rawQ p.1).cells++(rawQ p.2.1).cells++(rawQ p.2.2.1).cells++(rawQ p.2.2.2).cells++[gl (.bool t)]
theorem ZL4.mono{p:Q4}{k l:Nat}(h:ZL4 p k)(hk:k≤l):ZL4 p l:=⟨h.1.mono hk,h.2.1.mono hk,h.2.2.1.mono hk,h.2.2.2.mono hk⟩
theorem Sh4.zl{p:Q4}(h:Sh4 p):ZL4 p 1024:=⟨(ZL_short h.1).mono (by decide),(ZL_short h.2.1).mono (by decide),(ZL_short h.2.2.1).mono (by decide),(ZL_short h.2.2.2).mono (by decide)⟩
theorem by4_ne{p:Q4}(h:dq p≠⟨0,0⟩):by4 p≠⟨0,0⟩:=by
 unfold by4
 split
 ·next hc=>exact dq_cd h hc
 ·next hc=>exact hc
theorem by4_zl{p:Q4}{k:Nat}(h:ZL4 p k):ZL (by4 p) k:=by
 unfold by4
 split
 ·exact h.2.2.2
 ·exact h.2.2.1
theorem nm4_zl{p:Q4}{k:Nat}(h:ZL4 p k)(hd:dq p≠⟨0,0⟩):ZL4 (nm4 p) (8*k+2):=by
 have hb:=by4_ne hd
 have hz:=by4_zl h
 exact⟨(ZL_dv hb h.1 hz).mono (by omega),(ZL_dv hb h.2.1 hz).mono (by omega),(ZL_dv hb h.2.2.1 hz).mono (by omega),(ZL_dv hb h.2.2.2 hz).mono (by omega)⟩
theorem stp_zl{t:Bool}{a b c d:QC}{p:Q4}{k l:Nat}(h:ZL4 (a,b,c,d) k)(hp:ZL4 p l):ZL4 (stp t a b c d p) (4*k+4*l+3):=by
 obtain⟨h1,h2,h3,h4⟩:=h
 obtain⟨p1,p2,p3,p4⟩:=hp
 cases t
 ·exact⟨(ZL_add (ZL_mul h1 p1) (ZL_mul h2 p3)).mono (by omega),(ZL_add (ZL_mul h1 p2) (ZL_mul h2 p4)).mono (by omega),(ZL_add (ZL_mul h3 p1) (ZL_mul h4 p3)).mono (by omega),(ZL_add (ZL_mul h3 p2) (ZL_mul h4 p4)).mono (by omega)⟩
 ·exact⟨(ZL_add (ZL_mul h1 (ZL_cj p1)) (ZL_mul h2 (ZL_cj p3))).mono (by omega),(ZL_add (ZL_mul h1 (ZL_cj p2)) (ZL_mul h2 (ZL_cj p4))).mono (by omega),(ZL_add (ZL_mul h3 (ZL_cj p1)) (ZL_mul h4 (ZL_cj p3))).mono (by omega),(ZL_add (ZL_mul h3 (ZL_cj p2)) (ZL_mul h4 (ZL_cj p4))).mono (by omega)⟩
theorem qdm{x y:QC}(h:y≠⟨0,0⟩):y*(x / y)=x:=by
 have hn:=qc_nz h
 have hi:=Rat.mul_inv_cancel _ hn
 have e1:(x / y).re=(x.re*y.re - x.im*(-y.im))*(y.re*y.re+y.im*y.im)⁻¹:=rfl
 have e2:(x / y).im=(x.re*(-y.im)+x.im*y.re)*(y.re*y.re+y.im*y.im)⁻¹:=rfl
 generalize (y.re*y.re+y.im*y.im)⁻¹=i at *
 apply qc_ext
 ·rw[qmr,e1,e2]; grind
 ·rw[qmi,e1,e2]; grind
theorem qd_self{y:QC}(h:y≠⟨0,0⟩):y / y=⟨1,0⟩:=by
 have k:y*(y / y - ⟨1,0⟩)=⟨0,0⟩:=by
  have e:=qdm (x:=y) h
  have e1:=congrArg QC.re e
  have e2:=congrArg QC.im e
  simp only[qmr,qmi] at e1 e2
  apply qc_ext<;>simp only[qmr,qmi,qsr,qsi]<;>grind
 exact qc_sub0.1 ((qmul0.1 k).elim (fun k=>absurd k h) id)
theorem qd_zero{y:QC}(h:y≠⟨0,0⟩):(⟨0,0⟩:QC) / y=⟨0,0⟩:=(qmul0.1 (qdm (x:=⟨0,0⟩) h)).elim (fun k=>absurd k h) id
theorem qd_one(x:QC):x / ⟨1,0⟩=x:=by
 have h:=qdm (x:=x) (y:=⟨1,0⟩) (by decide)
 have e1:=congrArg QC.re h
 have e2:=congrArg QC.im h
 simp only[qmr,qmi] at e1 e2
 apply qc_ext<;>grind
theorem nm4_smul{p:Q4}(h:dq p≠⟨0,0⟩):p=smul (by4 p) (nm4 p):=by
 have hb:=by4_ne h
 obtain⟨a,b,c,d⟩:=p
 simp only[smul,nm4,qdm hb]
theorem nm4_nf{p:Q4}(h:dq p≠⟨0,0⟩):Nf (nm4 p):=by
 have hb:=by4_ne h
 by_cases hc:p.2.2.1=⟨0,0⟩
 ·have e:by4 p=p.2.2.2:=if_pos hc
  refine .inr ⟨?_,?_⟩
  ·show p.2.2.1 / by4 p=_
   rw[hc]; exact qd_zero hb
  ·show p.2.2.2 / by4 p=_
   rw[e] at hb ⊢; exact qd_self hb
 ·have e:by4 p=p.2.2.1:=if_neg hc
  refine .inl ?_
  show p.2.2.1 / by4 p=_
  rw[e] at hb ⊢; exact qd_self hb
theorem nm4_id{p:Q4}(h:Nf p):nm4 p=p:=by
 have e:by4 p=⟨1,0⟩:=by
  rcases h with h|⟨h1,h2⟩
  ·unfold by4; rw[h,if_neg (by decide)]
  ·unfold by4; rw[if_pos h1,h2]
 unfold nm4
 simp only[e,qd_one]
theorem eBeh(t u:Bool)(a b c d:QC)(p:Q4)(hm:ZL4 (a,b,c,d) 2000000)(hp:ZL4 p 2000000)(hd:dq (stp t a b c d p)≠⟨0,0⟩):SpecC Tryz.prog true 28 [.row (mR (a,b,c,d) t),.row (mR p u)] (.r (.row (mR (nm4 (stp t a b c d p)) (t != u)))):=by
 obtain⟨m1,m2,m3,m4⟩:=hm
 obtain⟨p1,p2,p3,p4⟩:=hp
 obtain⟨a2,b2,c2,d2⟩:=p
 by_cases hc:(stp t a b c d (a2,b2,c2,d2)).2.2.1=⟨0,0⟩
 ·have e:by4 (stp t a b c d (a2,b2,c2,d2))=(stp t a b c d (a2,b2,c2,d2)).2.2.2:=if_pos hc
  have k:=dq_cd hd hc
  unfold nm4
  rw[e]
  cases t<;>cases u
  ·exact eBeh0ff a b c d a2 b2 c2 d2 m1 m2 m3 m4 p1 p2 p3 p4 hc k
  ·exact eBeh0ft a b c d a2 b2 c2 d2 m1 m2 m3 m4 p1 p2 p3 p4 hc k
  ·exact eBeh0tf a b c d a2 b2 c2 d2 m1 m2 m3 m4 p1 p2 p3 p4 hc k
  ·exact eBeh0tt a b c d a2 b2 c2 d2 m1 m2 m3 m4 p1 p2 p3 p4 hc k
 ·have e:by4 (stp t a b c d (a2,b2,c2,d2))=(stp t a b c d (a2,b2,c2,d2)).2.2.1:=if_neg hc
  unfold nm4
  rw[e]
  cases t<;>cases u
  ·exact eBehCff a b c d a2 b2 c2 d2 m1 m2 m3 m4 p1 p2 p3 p4 hc
  ·exact eBehCft a b c d a2 b2 c2 d2 m1 m2 m3 m4 p1 p2 p3 p4 hc
  ·exact eBehCtf a b c d a2 b2 c2 d2 m1 m2 m3 m4 p1 p2 p3 p4 hc
  ·exact eBehCtt a b c d a2 b2 c2 d2 m1 m2 m3 m4 p1 p2 p3 p4 hc
open Classical in
theorem eTold(t:Bool)(p:Q4)(hm:ZL4 p 2000000)(hd:dq p≠⟨0,0⟩):SpecC Tryz.prog true 23 [.row (mR p t)] (if Sh4 (nm4 p) then .tup [.row (mQ (nm4 p) t),.c (gl (.int .i64 0))] else .tup [.row (zGG++zGG++zGG++zGG++[gl (.bool false)]),.c (gl (.int .i64 4))]):=by
 obtain⟨m1,m2,m3,m4⟩:=hm
 obtain⟨a,b,c,d⟩:=p
 by_cases hc:c=⟨0,0⟩
 ·have e:by4 (a,b,c,d)=d:=if_pos hc
  have k:=dq_cd hd hc
  unfold nm4 Sh4 mQ mR
  simp only[e]
  cases t
  ·exact eTold0f a b c d m1 m2 m3 m4 hc k
  ·exact eTold0t a b c d m1 m2 m3 m4 hc k
 ·have e:by4 (a,b,c,d)=c:=if_neg hc
  unfold nm4 Sh4 mQ mR
  simp only[e]
  cases t
  ·exact eToldCf a b c d m1 m2 m3 m4 hc
  ·exact eToldCt a b c d m1 m2 m3 m4 hc
end Go.Proofs.YtjlhiaafnpompaaGreat
namespace Go.Proofs.YtjlhiaafnpompaaGreat
open Go.RowKit Go.Shelf
attribute [local go_sem] Oper.semAt_some
def upto{α:Type}(f:Nat→α)(k:Nat):List α:=(List.range k).map f
theorem upto_succ{α:Type}(f:Nat→α)(k:Nat):upto f (k+1)=upto f k++[f k]:=by simp[upto,List.range_succ]
theorem upto_length{α:Type}(f:Nat→α)(k:Nat):(upto f k).length=k:=by simp[upto]
def Holds1{α:Type}(enc:α→Value)(n₀:Nat)(W:World)(sv:Value)(f:Nat→α)(len:Nat):Prop :=
 (sv=.slice none 0 0∧len=0)∨∃ b off cap,sv=.slice (some ⟨b,off,none⟩) len cap∧b<n₀∧∀ j,j<len→W.cell? ⟨b,off+j,none⟩=some (enc (f j))
theorem Holds1.below{α:Type}{enc:α→Value}{n₀:Nat}{A B:World}(h:Below n₀ A B){sv:Value}{f:Nat→α}{len:Nat}:Holds1 enc n₀ A sv f len→Holds1 enc n₀ B sv f len
 | .inl e=>.inl e
 | .inr ⟨b,off,cap,e,hb,hc⟩=>.inr ⟨b,off,cap,e,hb,fun j hj=>(h.cell (p:=⟨b,off+j,none⟩) hb).trans (hc j hj)⟩
theorem fence_wide_fn(f:FuncId):Fence.wide.fn f:=trivial
theorem leave_marks{P:Program}{fn:Func}{R:Ending→World→Prop}{tmps:Array Value}{D:Nat}{w:World}{v:Value}(hK:w.heap[D]?=some (.deferred (some [])))
  (hr:(results fn tmps).run P (w.putObj D (.deferred none))=.ok v (w.putObj D (.deferred none))) (hR:R (.returned v) (w.putObj D (.deferred none))) :
  bodyPostM Fence.wide 3 P fn R .ret { tmps:=tmps,defers:=[{ target:=.collected D,args:=#[] }] } w :=
 ⟨by simp,.inl ⟨_,_,rfl,run_takeDeferred hK,⟨_,hr,hR⟩⟩⟩
theorem heap_set(w:World)(b o:Nat)(u:Value)(k:Nat)(h:k≠b):(w.setCell ⟨b,o,none⟩ u).heap[k]?=w.heap[k]?:=Below.heap_setCell _ _ _ _ h
theorem below_set{B:Nat}{a w:World}(h:Below B a w){b o:Nat}(hp:B≤b)(u:Value):Below B a (w.setCell ⟨b,o,none⟩ u):=h.setCell (p:=⟨b,o,none⟩) hp u
end Go.Proofs.YtjlhiaafnpompaaGreat
namespace Go.Proofs.YtjlhiaafnpompaaGreat
open Go.RowKit Go.Shelf
attribute [local go_sem] Oper.semAt_some
theorem wpListIn_load_any{F:Fence}{n:Nat}{P:Program}{ops:Array Oper}{rest:List Oper}{o:Oper}{a:Act}{w:World}{Q:Exit→Act→World→Prop}(hgd:o.guard=none)(ty:TypeId)(x:Operand)(ho:o.op=.load ty x)
  (p:Addr) (v:Value) (hx:a.eval x=.pointer (some p)) (hl:(loadVar ty p).run P w=.ok v w)
  (h:wpListIn F n P ops Q rest (a.put o.dst v) w):wpListIn F n P ops Q (o :: rest) a w :=
 wpListIn_plain hgd fun K hK=>by
  refine⟨fun f hf=>(by simp only[Oper.about,ho] at hf; cases hf),?_⟩
  have e:(o.semAt F.round a.eval).run P w=.ok (.value v) w:=by
   rw[Oper.semAt_plain F _ _ (fun c=>by rw[ho]; exact nofun)]
   unfold execOp
   simp only[ho,hx,Instr.loadAt,Instr.sureAddr,Sem.run_bind,Sem.run_pure,Result.andThen_ok,hl]
  rw[e]
  exact hK _ _ h
set_option maxRecDepth 100000 in
theorem backward_in(row:Nat→Value)(F:Fence)(n:Nat)(h7:F.fn 66)(hro:F.round=none)(hn:1≤n)(l Bs b off len cap:Nat)(hlen:0<len)(hreach:len*1056≤140737488351232)(Kp:World→World→Prop)(hKt:∀{A B C:World},Kp A B→Kp B C→Kp A C)(J Jx:List Nat→World→Prop)
  (hY:∀ pre x W,J pre W→pre.length<len→YieldAt F (n - 1) Tryz.prog l #[.int .i64 (x:Nat),row x] W fun e W' =>
   (e=.returned (.bool true)∧J (pre++[x]) W'∧Kp W W')∨(e=.returned (.bool false)∧Jx (pre++[x]) W'))
  (W:World) (hKr:Kp W W) (hBs:∀ W',Kp W W'→W'.cell? ⟨Bs,0,none⟩=some (.slice (some ⟨b,off,none⟩) len cap))
  (hc:∀ W',Kp W W'→∀ j,j<len→(loadVar 29 ⟨b,off+j*33,none⟩).run Tryz.prog W'=.ok (row j) W') (h0:J [] W) :
  CallsIn F n Tryz.prog 66 #[.func (.yield l) #[] #[],.pointer (some ⟨Bs,0,none⟩)] W fun e W'=>(∃ v,e=.returned v) ∧
   ((∃ ys,ys=upto (fun k=>len - 1 - k) len∧J ys W')∨(∃ pre,(∃ k,k≤len∧pre=upto (fun k=>len - 1 - k) k)∧Jx pre W')):=by
 refine callsIn_of_wp Tryz.func66 rfl h7 ?_ hro
 simp only[Tryz.ntmps66,List.size_toArray,List.length_cons,List.length_nil,Nat.reduceAdd,Nat.reduceSub,Array.replicate_succ,Array.replicate_zero,List.push_toArray,List.append_toArray,List.nil_append,List.cons_append]
 have hBw:=hBs W hKr
 gi_wp2
 gi_loopw [3] (fun i wr=>∃ k:Nat,k≤len∧i=.int .i64 ((len:Int) - 1 - k)∧J (upto (fun k=>len - 1 - k) k) wr∧Kp W wr)
  (fun i _=>(intOf i+1).toNat)
 case atStart=>exact⟨0,Nat.zero_le _,by simp,h0,hKr⟩
 case round =>
  obtain⟨k,hk,rfl,hJs,hnx⟩:=hrel
  have hcx:k<len→(loadVar 29 ⟨b,off+(len - 1 - k)*33,none⟩).run Tryz.prog wr=.ok (row (len - 1 - k)) wr:=fun h=>hc wr hnx _ (by omega)
  have hBx:=hBs wr hnx
  by_cases hlt:k<len
  ·have h9:(0:Int)≤(len:Int) - 1 - k:=by omega
   obtain⟨m,hm⟩:∃ m:Nat,m=len - 1 - k:=⟨_,rfl⟩
   have hm2:(len:Int) - 1 - k=(m:Int):=by omega
   obtain⟨fn,tmps,assign,body,hy,hR⟩:=hY _ m wr hJs (by rw[upto_length]; exact hlt)
   have hcx':=hcx hlt
   rw[←hm] at hcx'
   rw[hm2]
   have hm3:=Lib.hid hm
   have hml:m<len:=by omega
   clear hcx h9 hm hm2
   gi_wp2_with (refine wpListIn_load_any rfl 29 _ rfl ⟨b,off+m*33,none⟩ (row m) (by rfl) hcx' ?_)
   refine hR.mono ?_
   rintro e W3 (⟨rfl,hJ3,hk3⟩|⟨rfl,hJx3⟩)
   ·gi_wp2
    have hm:m=len - 1 - k:=hm3
    go_roundw
    case rel=>exact⟨k+1,by omega,by simp; omega,by rw[upto_succ,←hm]; exact hJ3,hKt hnx hk3⟩
    case measure=>simp[intOf]
   ·gi_wp2
    have hm:m=len - 1 - k:=hm3
    refine bodyPost_ret (results_none rfl _ _ _) rfl ?_
    exact⟨⟨_,rfl⟩,.inr ⟨_,⟨k+1,by omega,(by rw[upto_succ,←hm])⟩,hJx3⟩⟩
  ·obtain rfl:k=len:=by omega
   gi_wp2
   go_end0
   exact⟨⟨_,rfl⟩,.inl ⟨_,rfl,hJs⟩⟩
theorem backward_any(a:Option Addr)(len cap:Nat)(w:World) :
  Calls Tryz.prog 27 #[.slice a len cap] w fun e w'=>e=.returned (.func (.func 66) #[] #[.pointer (some ⟨w.heap.size,0,none⟩)])∧w'=w.alloc (.cells #[.slice a len cap] 68):=by
 go_enter Tryz.func27,Tryz.ntmps27
 go_wp2
 go_ret
 exact⟨rfl,rfl⟩
theorem backward_stops(row:Nat→Value)(F:Fence)(n:Nat)(h7:F.fn 66)(hro:F.round=none)(hn:1≤n)(Bs b off len cap:Nat)(hlen:0<len)(hreach:len*1056≤140737488351232)
  (Kp:World→World→Prop) (hKt:∀{A B C:World},Kp A B→Kp B C→Kp A C) (hKr:∀ W,Kp W W) (w:World) (hKb:∀{B:World},Below w.heap.size w B→Kp w B)
  (hc:∀ W',Kp w W'→W'.cell? ⟨Bs,0,none⟩=some (.slice (some ⟨b,off,none⟩) len cap))
  (hcs:∀ W',Kp w W'→∀ j,j<len→(loadVar 29 ⟨b,off+j*33,none⟩).run Tryz.prog W'=.ok (row j) W') :
  SeqStopsK F n Tryz.prog 66 #[.pointer (some ⟨Bs,0,none⟩)] (fun x:Nat=>#[.int .i64 (x:Nat),row x]) Kp (fun ys=>ys=upto (fun k=>len - 1 - k) len) (fun pre=>∃ k,k≤len∧pre=upto (fun k=>len - 1 - k) k) len w:=fun l J Jx W hW _ _ hY h0=>by
 have hW':Kp w W:=hKb hW
 exact backward_in row F n h7 hro hn l Bs b off len cap hlen hreach Kp hKt J Jx hY W (hKr W) (fun W' h=>hc W' (hKt hW' h)) (fun W' h j hj=>hcs W' (hKt hW' h) j hj) h0
end Go.Proofs.YtjlhiaafnpompaaGreat
namespace Go.Proofs.YtjlhiaafnpompaaGreat
open Go.RowKit Go.Shelf
theorem wpList_load_any{P:Program}{ops:Array Oper}{rest:List Oper}{o:Oper}{a:Act}{w:World}{Q:Exit→Act→World→Prop}(hgd:o.guard=none)(ty:TypeId)(x:Operand)(ho:o.op=.load ty x)
  (p:Addr) (v:Value) (hx:a.eval x=.pointer (some p)) (hl:(loadVar ty p).run P w=.ok v w)
  (h:wpList P ops Q rest (a.put o.dst v) w):wpList P ops Q (o :: rest) a w :=
 wpList_plain hgd fun K hK=>by
  unfold Oper.wp
  have e:(execOp a.eval o).run P w=.ok (.value v) w:=by
   unfold execOp
   simp only[ho,hx,Instr.loadAt,Instr.sureAddr,Sem.run_bind,Sem.run_pure,Result.andThen_ok,hl]
  rw[e]
  exact hK _ _ h
set_option maxRecDepth 100000 in
theorem index_none(row:Nat→Value)(g:FuncId)(b off len cap:Nat)(hreach:len*1056≤140737488351232)(w:World)(hg:Enters Tryz.prog g)
  (hcs:∀ W',Below w.heap.size w W'→∀ j,j<len→(loadVar 29 ⟨b,off+j*33,none⟩).run Tryz.prog W'=.ok (row j) W')
  (hck:∀ W',Below w.heap.size w W'→∀ j,j<len→Calls Tryz.prog g #[row j] W' fun e w'=>e=.returned (.bool false)∧Below W'.heap.size W' w') :
  Calls Tryz.prog 65 #[.slice (some ⟨b,off,none⟩) len cap,.func (.func g) #[] #[]] w fun e w'=>e=.returned (.int .i64 (-1))∧Below w.heap.size w w':=by
 go_enter Tryz.func65,Tryz.ntmps65
 go_wp2
 go_loopw [5,8] (fun _ i wr=>∃ k:Nat,k≤len∧i=.int .i64 k∧Below w.heap.size w wr) (fun _ i _=>len - (intOf i).toNat)
 case atStart=>exact⟨0,Nat.zero_le _,rfl,Below.refl _ _⟩
 case round =>
  obtain⟨k,hk,rfl,hB⟩:=hrel
  have hl:=hcs wr hB k
  by_cases hlt:k<len
  ·have hl:=hl hlt
   go_wp2_with (first
    | (refine wpList_load_any rfl 29 _ rfl ⟨b,off+k*33,none⟩ (row k) (by rfl) hl ?_)
    | (rw[hg,Oper.upon_enter]; refine(hck wr hB k hlt).mono ?_; rintro e w' ⟨rfl,hB2⟩))
   exact⟨⟨k+1,by omega,by simp,hB.trans (hB2.mono hB.size)⟩,by simp[intOf]; omega⟩
  ·obtain rfl:k=len:=by omega
   go_wp2
   go_ret
   exact⟨rfl,hB⟩
theorem contains_none(row:Nat→Value)(g:FuncId)(b off len cap:Nat)(hreach:len*1056≤140737488351232)(w:World)(hg:Enters Tryz.prog g)
  (hcs:∀ W',Below w.heap.size w W'→∀ j,j<len→(loadVar 29 ⟨b,off+j*33,none⟩).run Tryz.prog W'=.ok (row j) W')
  (hck:∀ W',Below w.heap.size w W'→∀ j,j<len→Calls Tryz.prog g #[row j] W' fun e w'=>e=.returned (.bool false)∧Below W'.heap.size W' w') :
  Calls Tryz.prog 24 #[.slice (some ⟨b,off,none⟩) len cap,.func (.func g) #[] #[]] w fun e w'=>e=.returned (.bool false)∧Below w.heap.size w w':=by
 go_enter Tryz.func24,Tryz.ntmps24
 go_wp2_with (go_at_call 65; refine(index_none row g b off len cap hreach w hg hcs hck).mono ?_; rintro e w' ⟨rfl,hB⟩)
 go_ret
 exact⟨rfl,hB⟩
end Go.Proofs.YtjlhiaafnpompaaGreat
