/- Laws for the walk. -/
import Derived.Test.YtjlhiaafnpompaaGreatYba
import Derived.RangeFuncNested
import Derived.RangeFuncBound
import Derived.RangeFuncCalls
import Derived.RangeFuncLeaves
import Derived.RangeFuncBox
import Derived.Shelf.Abstract
import Derived.Shelf.RegionOpen
import Derived.OwnWalkIn
import Derived.TacticsInMore
import Derived.LoopNIn
import Derived.LoopIn
set_option linter.unusedVariables false
set_option maxHeartbeats 4000000
namespace Go.Proofs.YtjlhiaafnpompaaGreat
open Go.RowKit Tr
def smul(u:QC)(p:QC×QC×QC×QC):QC×QC×QC×QC:=(u*p.1,u*p.2.1,u*p.2.2.1,u*p.2.2.2)
def stp(t:Bool)(a b c d:QC)(p:QC×QC×QC×QC):QC×QC×QC×QC :=
 if t then(a*cj p.1+b*cj p.2.2.1,a*cj p.2.1+b*cj p.2.2.2,c*cj p.1+d*cj p.2.2.1,c*cj p.2.1+d*cj p.2.2.2)
 else(a*p.1+b*p.2.2.1,a*p.2.1+b*p.2.2.2,c*p.1+d*p.2.2.1,c*p.2.1+d*p.2.2.2)
theorem stp_smul(t:Bool)(a b c d u:QC)(p:QC×QC×QC×QC):stp t a b c d (smul u p)=smul (if t then cj u else u) (stp t a b c d p):=by
 obtain⟨p,q,r,s⟩:=p
 cases t
 ·simp only[stp,smul,Bool.false_eq_true,if_false]
  refine Prod.ext ?_ (Prod.ext ?_ (Prod.ext ?_ ?_))<;>apply qc_ext<;>simp only[qmr,qmi,qar,qai]<;>grind
 ·simp only[stp,smul,if_true,cj]
  refine Prod.ext ?_ (Prod.ext ?_ (Prod.ext ?_ ?_))<;>apply qc_ext<;>simp only[qmr,qmi,qar,qai]<;>grind
theorem smul_smul(u v:QC)(p:QC×QC×QC×QC):smul u (smul v p)=smul (u*v) p:=by
 obtain⟨p,q,r,s⟩:=p
 simp only[smul]
 refine Prod.ext ?_ (Prod.ext ?_ (Prod.ext ?_ ?_))<;>apply qc_ext<;>simp only[qmr,qmi]<;>grind
theorem cj_ne{u:QC}(h:u≠⟨0,0⟩):cj u≠⟨0,0⟩:=fun e=>h (qc_ext (by have:u.re=0:=congrArg QC.re e; exact this) (by have:-u.im=0:=congrArg QC.im e; show u.im=0; grind))
theorem mul_ne{u v:QC}(h:u≠⟨0,0⟩)(k:v≠⟨0,0⟩):u*v≠⟨0,0⟩:=fun e=>(qmul0.1 e).elim h k
def Nf(p:QC×QC×QC×QC):Prop:=p.2.2.1=⟨1,0⟩∨(p.2.2.1=⟨0,0⟩∧p.2.2.2=⟨1,0⟩)
def dq(p:QC×QC×QC×QC):QC:=p.1*p.2.2.2 - p.2.1*p.2.2.1
theorem dq_stp{t:Bool}{a b c d:QC}{p:QC×QC×QC×QC}(h:a*d - b*c≠⟨0,0⟩)(k:dq p≠⟨0,0⟩):dq (stp t a b c d p)≠⟨0,0⟩:=by
 obtain⟨p,q,r,s⟩:=p
 cases t
 ·have e:dq (stp false a b c d (p,q,r,s))=(a*d - b*c)*dq (p,q,r,s):=by
   simp only[dq,stp,Bool.false_eq_true,if_false]
   apply qc_ext<;>simp only[qmr,qmi,qar,qai,qsr,qsi]<;>grind
  rw[e]
  exact mul_ne h k
 ·have e:dq (stp true a b c d (p,q,r,s))=(a*d - b*c)*cj (dq (p,q,r,s)):=by
   simp only[dq,stp,if_true,cj]
   apply qc_ext<;>simp only[qmr,qmi,qar,qai,qsr,qsi]<;>grind
  rw[e]
  exact mul_ne h (cj_ne k)
theorem dq_smul{u:QC}{p:QC×QC×QC×QC}(h:dq (smul u p)≠⟨0,0⟩):dq p≠⟨0,0⟩:=fun e=>h (by
 have:dq (smul u p)=u*u*dq p:=by
  obtain⟨p,q,r,s⟩:=p
  simp only[dq,smul]
  apply qc_ext<;>simp only[qmr,qmi,qsr,qsi]<;>grind
 rw[this,e]
 exact qmul0.2 (.inr rfl))
theorem dq_cd{p:QC×QC×QC×QC}(h:dq p≠⟨0,0⟩)(hc:p.2.2.1=⟨0,0⟩):p.2.2.2≠⟨0,0⟩:=fun hd=>h (by
 unfold dq
 rw[hc,hd]
 apply qc_ext<;>simp only[qmr,qmi,qsr,qsi]<;>grind)
end Go.Proofs.YtjlhiaafnpompaaGreat
namespace Go.Proofs.YtjlhiaafnpompaaGreat
open Go.RowKit Tr
abbrev Q4:=QC×QC×QC×QC
def by4(p:Q4):QC:=if p.2.2.1=⟨0,0⟩ then p.2.2.2 else p.2.2.1
def nm4(p:Q4):Q4:=(p.1 / by4 p,p.2.1 / by4 p,p.2.2.1 / by4 p,p.2.2.2 / by4 p)
def ZL4(p:Q4)(k:Nat):Prop:=ZL p.1 k∧ZL p.2.1 k∧ZL p.2.2.1 k∧ZL p.2.2.2 k
def Sh4(p:Q4):Prop:=ShortZ p.1∧ShortZ p.2.1∧ShortZ p.2.2.1∧ShortZ p.2.2.2
def mR(p:Q4)(t:Bool):List GF:=cn p.1++cn p.2.1++cn p.2.2.1++cn p.2.2.2++[gl (.bool t)]
def mQ(p:Q4)(t:Bool):List GF:=(rawQ p.1).cells++(rawQ p.2.1).cells++(rawQ p.2.2.1).cells++(rawQ p.2.2.2).cells++[gl (.bool t)]
theorem ZL4.mono{p:Q4}{k l:Nat}(h:ZL4 p k)(hk:k≤l):ZL4 p l:=⟨h.1.mono hk,h.2.1.mono hk,h.2.2.1.mono hk,h.2.2.2.mono hk⟩
theorem Sh4.zl{p:Q4}(h:Sh4 p):ZL4 p 1024:=⟨(ZL_short h.1).mono (by decide),(ZL_short h.2.1).mono (by decide),(ZL_short h.2.2.1).mono (by decide),(ZL_short h.2.2.2).mono (by decide)⟩
theorem by4_ne{p:Q4}(h:dq p≠⟨0,0⟩):by4 p≠⟨0,0⟩:=by
 unfold by4
 split
 ·next hc=>exact dq_cd h hc
 ·next hc=>exact hc
theorem by4_zl{p:Q4}{k:Nat}(h:ZL4 p k):ZL (by4 p) k:=by
 unfold by4
 split
 ·exact h.2.2.2
 ·exact h.2.2.1
theorem nm4_zl{p:Q4}{k:Nat}(h:ZL4 p k)(hd:dq p≠⟨0,0⟩):ZL4 (nm4 p) (8*k+2):=by
 have hb:=by4_ne hd
 have hz:=by4_zl h
 exact⟨(ZL_dv hb h.1 hz).mono (by omega),(ZL_dv hb h.2.1 hz).mono (by omega),(ZL_dv hb h.2.2.1 hz).mono (by omega),(ZL_dv hb h.2.2.2 hz).mono (by omega)⟩
theorem stp_zl{t:Bool}{a b c d:QC}{p:Q4}{k l:Nat}(h:ZL4 (a,b,c,d) k)(hp:ZL4 p l):ZL4 (stp t a b c d p) (4*k+4*l+3):=by
 obtain⟨h1,h2,h3,h4⟩:=h
 obtain⟨p1,p2,p3,p4⟩:=hp
 cases t
 ·exact⟨(ZL_add (ZL_mul h1 p1) (ZL_mul h2 p3)).mono (by omega),(ZL_add (ZL_mul h1 p2) (ZL_mul h2 p4)).mono (by omega),(ZL_add (ZL_mul h3 p1) (ZL_mul h4 p3)).mono (by omega),(ZL_add (ZL_mul h3 p2) (ZL_mul h4 p4)).mono (by omega)⟩
 ·exact⟨(ZL_add (ZL_mul h1 (ZL_cj p1)) (ZL_mul h2 (ZL_cj p3))).mono (by omega),(ZL_add (ZL_mul h1 (ZL_cj p2)) (ZL_mul h2 (ZL_cj p4))).mono (by omega),(ZL_add (ZL_mul h3 (ZL_cj p1)) (ZL_mul h4 (ZL_cj p3))).mono (by omega),(ZL_add (ZL_mul h3 (ZL_cj p2)) (ZL_mul h4 (ZL_cj p4))).mono (by omega)⟩
theorem qdm{x y:QC}(h:y≠⟨0,0⟩):y*(x / y)=x:=by
 have hn:=qc_nz h
 have hi:=Rat.mul_inv_cancel _ hn
 have e1:(x / y).re=(x.re*y.re - x.im*(-y.im))*(y.re*y.re+y.im*y.im)⁻¹:=rfl
 have e2:(x / y).im=(x.re*(-y.im)+x.im*y.re)*(y.re*y.re+y.im*y.im)⁻¹:=rfl
 generalize (y.re*y.re+y.im*y.im)⁻¹=i at *
 apply qc_ext
 ·rw[qmr,e1,e2]; grind
 ·rw[qmi,e1,e2]; grind
theorem qd_self{y:QC}(h:y≠⟨0,0⟩):y / y=⟨1,0⟩:=by
 have k:y*(y / y - ⟨1,0⟩)=⟨0,0⟩:=by
  have e:=qdm (x:=y) h
  have e1:=congrArg QC.re e
  have e2:=congrArg QC.im e
  simp only[qmr,qmi] at e1 e2
  apply qc_ext<;>simp only[qmr,qmi,qsr,qsi]<;>grind
 exact qc_sub0.1 ((qmul0.1 k).elim (fun k=>absurd k h) id)
theorem qd_zero{y:QC}(h:y≠⟨0,0⟩):(⟨0,0⟩:QC) / y=⟨0,0⟩:=(qmul0.1 (qdm (x:=⟨0,0⟩) h)).elim (fun k=>absurd k h) id
theorem qd_one(x:QC):x / ⟨1,0⟩=x:=by
 have h:=qdm (x:=x) (y:=⟨1,0⟩) (by decide)
 have e1:=congrArg QC.re h
 have e2:=congrArg QC.im h
 simp only[qmr,qmi] at e1 e2
 apply qc_ext<;>grind
theorem nm4_smul{p:Q4}(h:dq p≠⟨0,0⟩):p=smul (by4 p) (nm4 p):=by
 have hb:=by4_ne h
 obtain⟨a,b,c,d⟩:=p
 simp only[smul,nm4,qdm hb]
theorem nm4_nf{p:Q4}(h:dq p≠⟨0,0⟩):Nf (nm4 p):=by
 have hb:=by4_ne h
 by_cases hc:p.2.2.1=⟨0,0⟩
 ·have e:by4 p=p.2.2.2:=if_pos hc
  refine .inr ⟨?_,?_⟩
  ·show p.2.2.1 / by4 p=_
   rw[hc]; exact qd_zero hb
  ·show p.2.2.2 / by4 p=_
   rw[e] at hb ⊢; exact qd_self hb
 ·have e:by4 p=p.2.2.1:=if_neg hc
  refine .inl ?_
  show p.2.2.1 / by4 p=_
  rw[e] at hb ⊢; exact qd_self hb
theorem nm4_id{p:Q4}(h:Nf p):nm4 p=p:=by
 have e:by4 p=⟨1,0⟩:=by
  rcases h with h|⟨h1,h2⟩
  ·unfold by4; rw[h,if_neg (by decide)]
  ·unfold by4; rw[if_pos h1,h2]
 unfold nm4
 simp only[e,qd_one]
theorem eBeh(t u:Bool)(a b c d:QC)(p:Q4)(hm:ZL4 (a,b,c,d) 200000000)(hp:ZL4 p 200000000)(hd:dq (stp t a b c d p)≠⟨0,0⟩):SpecC Tryz.prog true 28 [.row (mR (a,b,c,d) t),.row (mR p u)] (.r (.row (mR (nm4 (stp t a b c d p)) (t != u)))):=by
 obtain⟨m1,m2,m3,m4⟩:=hm
 obtain⟨p1,p2,p3,p4⟩:=hp
 obtain⟨a2,b2,c2,d2⟩:=p
 by_cases hc:(stp t a b c d (a2,b2,c2,d2)).2.2.1=⟨0,0⟩
 ·have e:by4 (stp t a b c d (a2,b2,c2,d2))=(stp t a b c d (a2,b2,c2,d2)).2.2.2:=if_pos hc
  have k:=dq_cd hd hc
  unfold nm4
  rw[e]
  cases t<;>cases u
  ·exact eBeh0ff a b c d a2 b2 c2 d2 m1 m2 m3 m4 p1 p2 p3 p4 hc k
  ·exact eBeh0ft a b c d a2 b2 c2 d2 m1 m2 m3 m4 p1 p2 p3 p4 hc k
  ·exact eBeh0tf a b c d a2 b2 c2 d2 m1 m2 m3 m4 p1 p2 p3 p4 hc k
  ·exact eBeh0tt a b c d a2 b2 c2 d2 m1 m2 m3 m4 p1 p2 p3 p4 hc k
 ·have e:by4 (stp t a b c d (a2,b2,c2,d2))=(stp t a b c d (a2,b2,c2,d2)).2.2.1:=if_neg hc
  unfold nm4
  rw[e]
  cases t<;>cases u
  ·exact eBehCff a b c d a2 b2 c2 d2 m1 m2 m3 m4 p1 p2 p3 p4 hc
  ·exact eBehCft a b c d a2 b2 c2 d2 m1 m2 m3 m4 p1 p2 p3 p4 hc
  ·exact eBehCtf a b c d a2 b2 c2 d2 m1 m2 m3 m4 p1 p2 p3 p4 hc
  ·exact eBehCtt a b c d a2 b2 c2 d2 m1 m2 m3 m4 p1 p2 p3 p4 hc
open Classical in
theorem eTold(t:Bool)(p:Q4)(hm:ZL4 p 200000000)(hd:dq p≠⟨0,0⟩):SpecC Tryz.prog true 23 [.row (mR p t)] (if Sh4 (nm4 p) then .tup [.row (mQ (nm4 p) t),.c (gl (.int .i64 0))] else .tup [.row (zGG++zGG++zGG++zGG++[gl (.bool false)]),.c (gl (.int .i64 4))]):=by
 obtain⟨m1,m2,m3,m4⟩:=hm
 obtain⟨a,b,c,d⟩:=p
 by_cases hc:c=⟨0,0⟩
 ·have e:by4 (a,b,c,d)=d:=if_pos hc
  have k:=dq_cd hd hc
  unfold nm4 Sh4 mQ mR
  simp only[e]
  cases t
  ·exact eTold0f a b c d m1 m2 m3 m4 hc k
  ·exact eTold0t a b c d m1 m2 m3 m4 hc k
 ·have e:by4 (a,b,c,d)=c:=if_neg hc
  unfold nm4 Sh4 mQ mR
  simp only[e]
  cases t
  ·exact eToldCf a b c d m1 m2 m3 m4 hc
  ·exact eToldCt a b c d m1 m2 m3 m4 hc
end Go.Proofs.YtjlhiaafnpompaaGreat
namespace Go.Proofs.YtjlhiaafnpompaaGreat
open Go.RowKit Go.Shelf
attribute [local go_sem] Oper.semAt_some
def upto{α:Type}(f:Nat→α)(k:Nat):List α:=(List.range k).map f
theorem upto_succ{α:Type}(f:Nat→α)(k:Nat):upto f (k+1)=upto f k++[f k]:=by simp[upto,List.range_succ]
theorem upto_length{α:Type}(f:Nat→α)(k:Nat):(upto f k).length=k:=by simp[upto]
def Holds1{α:Type}(enc:α→Value)(n₀:Nat)(W:World)(sv:Value)(f:Nat→α)(len:Nat):Prop :=
 (sv=.slice none 0 0∧len=0)∨∃ b off cap,sv=.slice (some ⟨b,off,none⟩) len cap∧b<n₀∧∀ j,j<len→W.cell? ⟨b,off+j,none⟩=some (enc (f j))
theorem Holds1.below{α:Type}{enc:α→Value}{n₀:Nat}{A B:World}(h:Below n₀ A B){sv:Value}{f:Nat→α}{len:Nat}:Holds1 enc n₀ A sv f len→Holds1 enc n₀ B sv f len
 | .inl e=>.inl e
 | .inr ⟨b,off,cap,e,hb,hc⟩=>.inr ⟨b,off,cap,e,hb,fun j hj=>(h.cell (p:=⟨b,off+j,none⟩) hb).trans (hc j hj)⟩
theorem fence_wide_fn(f:FuncId):Fence.wide.fn f:=trivial
theorem leave_marks{P:Program}{fn:Func}{R:Ending→World→Prop}{tmps:Array Value}{D:Nat}{w:World}{v:Value}(hK:w.heap[D]?=some (.deferred (some [])))
  (hr:(results fn tmps).run P (w.putObj D (.deferred none))=.ok v (w.putObj D (.deferred none))) (hR:R (.returned v) (w.putObj D (.deferred none))) :
  bodyPostM Fence.wide 3 P fn R .ret { tmps:=tmps,defers:=[{ target:=.collected D,args:=#[] }] } w :=
 ⟨by simp,.inl ⟨_,_,rfl,run_takeDeferred hK,⟨_,hr,hR⟩⟩⟩
theorem heap_set(w:World)(b o:Nat)(u:Value)(k:Nat)(h:k≠b):(w.setCell ⟨b,o,none⟩ u).heap[k]?=w.heap[k]?:=Below.heap_setCell _ _ _ _ h
theorem below_set{B:Nat}{a w:World}(h:Below B a w){b o:Nat}(hp:B≤b)(u:Value):Below B a (w.setCell ⟨b,o,none⟩ u):=h.setCell (p:=⟨b,o,none⟩) hp u
end Go.Proofs.YtjlhiaafnpompaaGreat
namespace Go.Proofs.YtjlhiaafnpompaaGreat
open Go.RowKit Go.Shelf
attribute [local go_sem] Oper.semAt_some
theorem wpListIn_load_any{F:Fence}{n:Nat}{P:Program}{ops:Array Oper}{rest:List Oper}{o:Oper}{a:Act}{w:World}{Q:Exit→Act→World→Prop}(hgd:o.guard=none)(ty:TypeId)(x:Operand)(ho:o.op=.load ty x)
  (p:Addr) (v:Value) (hx:a.eval x=.pointer (some p)) (hl:(loadVar ty p).run P w=.ok v w)
  (h:wpListIn F n P ops Q rest (a.put o.dst v) w):wpListIn F n P ops Q (o :: rest) a w :=
 wpListIn_plain hgd fun K hK=>by
  refine⟨fun f hf=>(by simp only[Oper.about,ho] at hf; cases hf),?_⟩
  have e:(o.semAt F.round a.eval).run P w=.ok (.value v) w:=by
   rw[Oper.semAt_plain F _ _ (fun c=>by rw[ho]; exact nofun)]
   unfold execOp
   simp only[ho,hx,Instr.loadAt,Instr.sureAddr,Sem.run_bind,Sem.run_pure,Result.andThen_ok,hl]
  rw[e]
  exact hK _ _ h
set_option maxRecDepth 100000 in
theorem backward_in(row:Nat→Value)(F:Fence)(n:Nat)(h7:F.fn 66)(hro:F.round=none)(hn:1≤n)(l Bs b off len cap:Nat)(hlen:0<len)(hreach:len*1056≤140737488351232)(Kp:World→World→Prop)(hKt:∀{A B C:World},Kp A B→Kp B C→Kp A C)(J Jx:List Nat→World→Prop)
  (hY:∀ pre x W,J pre W→pre.length<len→YieldAt F (n - 1) Tryz.prog l #[.int .i64 (x:Nat),row x] W fun e W' =>
   (e=.returned (.bool true)∧J (pre++[x]) W'∧Kp W W')∨(e=.returned (.bool false)∧Jx (pre++[x]) W'))
  (W:World) (hKr:Kp W W) (hBs:∀ W',Kp W W'→W'.cell? ⟨Bs,0,none⟩=some (.slice (some ⟨b,off,none⟩) len cap))
  (hc:∀ W',Kp W W'→∀ j,j<len→(loadVar 29 ⟨b,off+j*33,none⟩).run Tryz.prog W'=.ok (row j) W') (h0:J [] W) :
  CallsIn F n Tryz.prog 66 #[.func (.yield l) #[] #[],.pointer (some ⟨Bs,0,none⟩)] W fun e W'=>(∃ v,e=.returned v) ∧
   ((∃ ys,ys=upto (fun k=>len - 1 - k) len∧J ys W')∨(∃ pre,(∃ k,k≤len∧pre=upto (fun k=>len - 1 - k) k)∧Jx pre W')):=by
 refine callsIn_of_wp Tryz.func66 rfl h7 ?_ hro
 simp only[Tryz.ntmps66,List.size_toArray,List.length_cons,List.length_nil,Nat.reduceAdd,Nat.reduceSub,Array.replicate_succ,Array.replicate_zero,List.push_toArray,List.append_toArray,List.nil_append,List.cons_append]
 have hBw:=hBs W hKr
 gi_wp2
 gi_loopw [3] (fun i wr=>∃ k:Nat,k≤len∧i=.int .i64 ((len:Int) - 1 - k)∧J (upto (fun k=>len - 1 - k) k) wr∧Kp W wr)
  (fun i _=>(intOf i+1).toNat)
 case atStart=>exact⟨0,Nat.zero_le _,by simp,h0,hKr⟩
 case round =>
  obtain⟨k,hk,rfl,hJs,hnx⟩:=hrel
  have hcx:k<len→(loadVar 29 ⟨b,off+(len - 1 - k)*33,none⟩).run Tryz.prog wr=.ok (row (len - 1 - k)) wr:=fun h=>hc wr hnx _ (by omega)
  have hBx:=hBs wr hnx
  by_cases hlt:k<len
  ·have h9:(0:Int)≤(len:Int) - 1 - k:=by omega
   obtain⟨m,hm⟩:∃ m:Nat,m=len - 1 - k:=⟨_,rfl⟩
   have hm2:(len:Int) - 1 - k=(m:Int):=by omega
   obtain⟨fn,tmps,assign,body,hy,hR⟩:=hY _ m wr hJs (by rw[upto_length]; exact hlt)
   have hcx':=hcx hlt
   rw[←hm] at hcx'
   rw[hm2]
   have hm3:=Lib.hid hm
   have hml:m<len:=by omega
   clear hcx h9 hm hm2
   gi_wp2_with (refine wpListIn_load_any rfl 29 _ rfl ⟨b,off+m*33,none⟩ (row m) (by rfl) hcx' ?_)
   refine hR.mono ?_
   rintro e W3 (⟨rfl,hJ3,hk3⟩|⟨rfl,hJx3⟩)
   ·gi_wp2
    have hm:m=len - 1 - k:=hm3
    go_roundw
    case rel=>exact⟨k+1,by omega,by simp; omega,by rw[upto_succ,←hm]; exact hJ3,hKt hnx hk3⟩
    case measure=>simp[intOf]
   ·gi_wp2
    have hm:m=len - 1 - k:=hm3
    refine bodyPost_ret (results_none rfl _ _ _) rfl ?_
    exact⟨⟨_,rfl⟩,.inr ⟨_,⟨k+1,by omega,(by rw[upto_succ,←hm])⟩,hJx3⟩⟩
  ·obtain rfl:k=len:=by omega
   gi_wp2
   go_end0
   exact⟨⟨_,rfl⟩,.inl ⟨_,rfl,hJs⟩⟩
theorem backward_any(a:Option Addr)(len cap:Nat)(w:World) :
  Calls Tryz.prog 27 #[.slice a len cap] w fun e w'=>e=.returned (.func (.func 66) #[] #[.pointer (some ⟨w.heap.size,0,none⟩)])∧w'=w.alloc (.cells #[.slice a len cap] 68):=by
 go_enter Tryz.func27,Tryz.ntmps27
 go_wp2
 go_ret
 exact⟨rfl,rfl⟩
theorem backward_stops(row:Nat→Value)(F:Fence)(n:Nat)(h7:F.fn 66)(hro:F.round=none)(hn:1≤n)(Bs b off len cap:Nat)(hlen:0<len)(hreach:len*1056≤140737488351232)
  (Kp:World→World→Prop) (hKt:∀{A B C:World},Kp A B→Kp B C→Kp A C) (hKr:∀ W,Kp W W) (w:World) (hKb:∀{B:World},Below w.heap.size w B→Kp w B)
  (hc:∀ W',Kp w W'→W'.cell? ⟨Bs,0,none⟩=some (.slice (some ⟨b,off,none⟩) len cap))
  (hcs:∀ W',Kp w W'→∀ j,j<len→(loadVar 29 ⟨b,off+j*33,none⟩).run Tryz.prog W'=.ok (row j) W') :
  SeqStopsK F n Tryz.prog 66 #[.pointer (some ⟨Bs,0,none⟩)] (fun x:Nat=>#[.int .i64 (x:Nat),row x]) Kp (fun ys=>ys=upto (fun k=>len - 1 - k) len) (fun pre=>∃ k,k≤len∧pre=upto (fun k=>len - 1 - k) k) len w:=fun l J Jx W hW _ _ hY h0=>by
 have hW':Kp w W:=hKb hW
 exact backward_in row F n h7 hro hn l Bs b off len cap hlen hreach Kp hKt J Jx hY W (hKr W) (fun W' h=>hc W' (hKt hW' h)) (fun W' h j hj=>hcs W' (hKt hW' h) j hj) h0
end Go.Proofs.YtjlhiaafnpompaaGreat
namespace Go.Proofs.YtjlhiaafnpompaaGreat
open Go.RowKit Go.Shelf
theorem wpList_load_any{P:Program}{ops:Array Oper}{rest:List Oper}{o:Oper}{a:Act}{w:World}{Q:Exit→Act→World→Prop}(hgd:o.guard=none)(ty:TypeId)(x:Operand)(ho:o.op=.load ty x)
  (p:Addr) (v:Value) (hx:a.eval x=.pointer (some p)) (hl:(loadVar ty p).run P w=.ok v w)
  (h:wpList P ops Q rest (a.put o.dst v) w):wpList P ops Q (o :: rest) a w :=
 wpList_plain hgd fun K hK=>by
  unfold Oper.wp
  have e:(execOp a.eval o).run P w=.ok (.value v) w:=by
   unfold execOp
   simp only[ho,hx,Instr.loadAt,Instr.sureAddr,Sem.run_bind,Sem.run_pure,Result.andThen_ok,hl]
  rw[e]
  exact hK _ _ h
set_option maxRecDepth 100000 in
theorem index_none(row:Nat→Value)(g:FuncId)(b off len cap:Nat)(hreach:len*1056≤140737488351232)(w:World)(hg:Enters Tryz.prog g)
  (hcs:∀ W',Below w.heap.size w W'→∀ j,j<len→(loadVar 29 ⟨b,off+j*33,none⟩).run Tryz.prog W'=.ok (row j) W')
  (hck:∀ W',Below w.heap.size w W'→∀ j,j<len→Calls Tryz.prog g #[row j] W' fun e w'=>e=.returned (.bool false)∧Below W'.heap.size W' w') :
  Calls Tryz.prog 65 #[.slice (some ⟨b,off,none⟩) len cap,.func (.func g) #[] #[]] w fun e w'=>e=.returned (.int .i64 (-1))∧Below w.heap.size w w':=by
 go_enter Tryz.func65,Tryz.ntmps65
 go_wp2
 go_loopw [5,8] (fun _ i wr=>∃ k:Nat,k≤len∧i=.int .i64 k∧Below w.heap.size w wr) (fun _ i _=>len - (intOf i).toNat)
 case atStart=>exact⟨0,Nat.zero_le _,rfl,Below.refl _ _⟩
 case round =>
  obtain⟨k,hk,rfl,hB⟩:=hrel
  have hl:=hcs wr hB k
  by_cases hlt:k<len
  ·have hl:=hl hlt
   go_wp2_with (first
    | (refine wpList_load_any rfl 29 _ rfl ⟨b,off+k*33,none⟩ (row k) (by rfl) hl ?_)
    | (rw[hg,Oper.upon_enter]; refine(hck wr hB k hlt).mono ?_; rintro e w' ⟨rfl,hB2⟩))
   exact⟨⟨k+1,by omega,by simp,hB.trans (hB2.mono hB.size)⟩,by simp[intOf]; omega⟩
  ·obtain rfl:k=len:=by omega
   go_wp2
   go_ret
   exact⟨rfl,hB⟩
theorem contains_none(row:Nat→Value)(g:FuncId)(b off len cap:Nat)(hreach:len*1056≤140737488351232)(w:World)(hg:Enters Tryz.prog g)
  (hcs:∀ W',Below w.heap.size w W'→∀ j,j<len→(loadVar 29 ⟨b,off+j*33,none⟩).run Tryz.prog W'=.ok (row j) W')
  (hck:∀ W',Below w.heap.size w W'→∀ j,j<len→Calls Tryz.prog g #[row j] W' fun e w'=>e=.returned (.bool false)∧Below W'.heap.size W' w') :
  Calls Tryz.prog 24 #[.slice (some ⟨b,off,none⟩) len cap,.func (.func g) #[] #[]] w fun e w'=>e=.returned (.bool false)∧Below w.heap.size w w':=by
 go_enter Tryz.func24,Tryz.ntmps24
 go_wp2_with (go_at_call 65; refine(index_none row g b off len cap hreach w hg hcs hck).mono ?_; rintro e w' ⟨rfl,hB⟩)
 go_ret
 exact⟨rfl,hB⟩
end Go.Proofs.YtjlhiaafnpompaaGreat
namespace Go.Proofs.YtjlhiaafnpompaaGreat
open Go.RowKit Go.Shelf Tr
attribute [local go_sem] Oper.semAt_some
theorem okg_keep{w w':World}{A A':Nat→Prop}(hs:w.heap.size≤w'.heap.size)(hk:∀ b,b<w.heap.size→¬A b→w'.heap[b]?=w.heap[b]?∧¬A' b):∀{l:List GF} {vs:List Value},okg l vs w A→okg l vs w' A'
 | [],[],_=>trivial
 | g :: l,v :: vs,h=>⟨g.keeps v w w' A A' hs hk h.1,okg_keep hs hk h.2⟩
 | [],_ :: _,h=>h.elim
 | _ :: _,[],h=>h.elim
theorem okg_size{w:World}{A:Nat→Prop}:∀{l:List GF} {vs:List Value},okg l vs w A→vs.length=l.length
 | [],[],_=>rfl
 | _ :: _,_ :: _,h=>congrArg (·+1) (okg_size h.2)
 | [],_ :: _,h=>h.elim
 | _ :: _,[],h=>h.elim
theorem okg_cells{w:World}{A:Nat→Prop}:∀{l:List GF} {vs:List Value},okg l vs w A→vs.all (·.oneCell')=true
 | [],[],_=>rfl
 | g :: _,_ :: _,h=>by rw[List.all_cons,g.cell _ _ _ h.1,okg_cells h.2]; rfl
 | [],_ :: _,h=>h.elim
 | _ :: _,[],h=>h.elim
theorem okg_noW{w:World}{A:Nat→Prop}{t:TypeId}{fr:Nat×Nat}{l:List GF}{vs:List Value}(hn:∀ g,g∈l→g.int=false)(h:okg l vs w A):NoW (.cells vs.toArray t fr):=by
 intro cs T fr e i k x hc
 cases e
 have:∀(l:List GF) (vs:List Value) (i:Nat),(∀ g,g∈l→g.int=false)→okg l vs w A→vs[i]?≠some (.int k x):=by
  intro l
  induction l with
  | nil=>intro vs i _ h; cases vs with
   | nil=>simp
   | cons=>exact h.elim
  | cons g l ih=>intro vs i hn h; cases vs with
   | nil=>exact h.elim
   | cons v vs =>
    cases i with
    | zero=>simpa using g.noint (hn g (by simp)) v w A h.1 k x
    | succ i=>simpa using ih vs i (fun g hg=>hn g (by simp[hg])) h.2
 exact this l vs i hn h (by simpa using hc)
theorem wpListIn_store_row{F:Fence}{n:Nat}{P:Program}{ops:Array Oper}{rest:List Oper}{o:Oper}{a:Act}{w:World}{Q:Exit→Act→World→Prop}(hgd:o.guard=none)(ty:TypeId)(x y:Operand)(ho:o.op=.store ty x y)
  (g:Nat) (cells:Array Value) (hx:a.eval x=.pointer (some ⟨g,0,none⟩)) (hy:a.eval y=.agg cells)
  (t:TypeId) (old:Array Value) (hg:w.heap[g]?=some (.cells old t (0,0))) (hi:(P.info? ty).map (·.size)=some cells.size)
  (hold:old.size=cells.size) (h1:cells.all (·.oneCell')=true)
  (h:wpListIn F n P ops Q rest (a.put o.dst undef) (w.setRow g cells)):wpListIn F n P ops Q (o :: rest) a w :=
 wpListIn_plain hgd fun K hK=>by
  refine⟨fun f hf=>(by simp only[Oper.about,ho] at hf; cases hf),?_⟩
  rw[Oper.semAt_plain F _ _ (fun c=>by rw[ho]; exact nofun)]
  unfold execOp
  simp only[ho,hx,hy,Instr.storeAt,Instr.sureAddr,Sem.run_bind,Sem.run_pure,Result.andThen_ok,run_storeVar_row w g t ty old cells hg hi hold h1]
  exact hK _ _ h
def zMob:Array Value:=#[.bool false,.string { data:=#[] },.bool false,.string { data:=#[] },.bool false,.string { data:=#[] },.bool false,.string { data:=#[] },.bool false,.string { data:=#[] },.bool false,.string { data:=#[] },.bool false,.string { data:=#[] },.bool false,.string { data:=#[] },.bool false,.string { data:=#[] },.bool false,.string { data:=#[] },.bool false,.string { data:=#[] },.bool false,.string { data:=#[] },.bool false,.string { data:=#[] },.bool false,.string { data:=#[] },.bool false,.string { data:=#[] },.bool false,.string { data:=#[] },.bool false]
theorem zMob_cells:zMob.all (·.oneCell')=true:=by unfold zMob; rw[List.all_toArray]; rfl
def AW(A:Nat→Prop)(x B:Nat)(W:World)(k:Nat):Prop:=A k∨k=x∨(B≤k∧∃ o,W.heap[k]?=some o∧o.isCells=false)
theorem AW.lt{A:Nat→Prop}{x B:Nat}{W:World}(hA:∀ n,A n→n<W.heap.size)(hx:x<W.heap.size){k:Nat}(h:AW A x B W k):k<W.heap.size:=by
 rcases h with h|rfl|⟨_,o,h,_⟩
 ·exact hA k h
 ·exact hx
 ·exact(Array.getElem?_eq_some_iff.1 h).1
theorem AW.rcv{A:Nat→Prop}{x B:Nat}{W:World}(hA:Rcv A W){vs:List Value}{t:TypeId}(hx:W.heap[x]?=some (.cells vs.toArray t (0,0)))(hn:NoW (.cells vs.toArray t (0,0))):Rcv (AW A x B W) W:=by
 intro k h
 rcases h with h|rfl|⟨_,o,h,ho⟩
 ·exact hA k h
 ·exact⟨_,hx,hn⟩
 ·refine⟨o,h,?_⟩
  intro cs T fr e
  subst e
  cases ho
theorem AW.grow{A:Nat→Prop}{x B:Nat}{W W':World}{row:Option Nat}(hg:W.grownBy W' row)(hr:∀ r,row=some r→B≤r∧∃ o:Obj,W.heap[r]?=some o∧o.isCells=false)(b:Nat)(hb:b<W.heap.size)(h:¬AW A x B W b):W'.heap[b]?=W.heap[b]?∧¬AW A x B W' b:=by
 have e:W'.heap[b]?=W.heap[b]?:=hg.block b hb (fun e=>by
  obtain⟨k1,o,k2,k3⟩:=hr b e.symm
  exact h (.inr (.inr ⟨k1,o,k2,k3⟩)))
 refine⟨e,fun k=>h ?_⟩
 rcases k with k|k|⟨k1,o,k2,k3⟩
 ·exact .inl k
 ·exact .inr (.inl k)
 ·exact .inr (.inr ⟨k1,o,e▸k2,k3⟩)
theorem results_two{P:Program}{fn:Func}{tmps:Array Value}{w:World}{r1 r2:ResultVar}{v1 v2:Value}(hr:fn.results=#[r1,r2])(h1:(resV tmps r1).run P w=.ok v1 w)(h2:(resV tmps r2).run P w=.ok v2 w):(results fn tmps).run P w=.ok (.tuple #[v1,v2]) w:=by
 have e:((#[r1,r2]:Array ResultVar).mapM (resV tmps)).run P w=.ok #[v1,v2] w:=by
  rw[Array.mapM_eq_mapM_toList]
  simp only[map_eq_pure_bind,List.mapM_cons,List.mapM_nil,Sem.run_bind,h1,h2,Result.andThen_ok,Sem.run_pure]
 rw[results_eq,Sem.run_bind,hr,e]
 rfl
theorem load_one{P:Program}{w:World}{t:TypeId}{d:TypeDesc}{p:Addr}{v:Value}(hd:P.underlying t=some d)(hg:isAggD d=false)(hc:w.cell? p=some v):(loadVar t p).run P w=.ok v w:=by
 simp[loadVar,run_isAgg hd,hg,hc]
theorem compose_end{R:Ending→World→Prop}{tmps:Array Value}{D m:Nat}{w:World}{cs:Array Value}{z:Int}(t2:tmps.getD 2 undef=.pointer (some ⟨m,0,none⟩))(t3:tmps.getD 3 undef=.pointer (some ⟨m+1,0,none⟩))(hD:w.heap[D]?=some (.deferred (some [])))
  (h2:w.heap[m]?=some (.cells cs 29 (0,0))) (h3:w.heap[m+1]?=some (.cells #[.int .i64 z] 31 (0,0))) (hz:cs.size=33) (n2:m≠D) (n3:m+1≠D)
  (hR:R (.returned (.tuple #[.agg cs,.int .i64 z])) (w.putObj D (.deferred none))):bodyPostM Fence.wide 3 Tryz.prog Tryz.f9 R .ret { tmps:=tmps,defers:=[{ target:=.collected D,args:=#[] }] } w:=by
 have i33:((Tryz.prog).info? 29).map (·.size)=some 33:=by kernel_rfl
 have g2:(w.putObj D (.deferred none)).heap[m]?=some (.cells cs 29 (0,0)):=(World.putObj_heap_other n2).trans h2
 have g3:(w.putObj D (.deferred none)).heap[m+1]?=some (.cells #[.int .i64 z] 31 (0,0)):=(World.putObj_heap_other n3).trans h3
 refine leave_marks (v:=.tuple #[.agg cs,.int .i64 z]) hD (results_two Tryz.results9 ?_ ?_) hR
 ·simp only[resV,t2,asAddr,Sem.run_bind,Sem.run_pure,Result.andThen_ok]
  exact run_loadVar_row _ _ _ _ _ _ _ g2 Tryz.underlying29 rfl (by rw[i33,hz])
 ·simp only[resV,t3,asAddr,Sem.run_bind,Sem.run_pure,Result.andThen_ok]
  exact load_one Tryz.underlying31 rfl (by unfold World.cell?; simp only[g3]; rfl)
end Go.Proofs.YtjlhiaafnpompaaGreat
namespace Go.Proofs.YtjlhiaafnpompaaGreat
open Go.RowKit Tr
def IsW(L W:Nat)(z:QC):Prop:=∃ x y:Int,z.re*(L:Int)=(x:Int)∧z.im*(L:Int)=(y:Int)∧x.natAbs≤W∧y.natAbs≤W
theorem IsW.mul{L W L' W':Nat}{z w:QC}(h:IsW L W z)(k:IsW L' W' w):IsW (L*L') (2*(W*W')) (z*w):=by
 obtain⟨x,y,h1,h2,h3,h4⟩:=h
 obtain⟨u,v,k1,k2,k3,k4⟩:=k
 refine⟨x*u - y*v,x*v+y*u,?_,?_,?_,?_⟩
 ·rw[Int.natCast_mul,Rat.intCast_mul,Rat.intCast_sub,Rat.intCast_mul,Rat.intCast_mul,←h1,←h2,←k1,←k2,qmr]; grind
 ·rw[Int.natCast_mul,Rat.intCast_mul,Rat.intCast_add,Rat.intCast_mul,Rat.intCast_mul,←h1,←h2,←k1,←k2,qmi]; grind
 ·have e1:=Nat.mul_le_mul h3 k3
  have e2:=Nat.mul_le_mul h4 k4
  rw[←Int.natAbs_mul] at e1 e2
  have:=Int.natAbs_sub_le (x*u) (y*v)
  omega
 ·have e1:=Nat.mul_le_mul h3 k4
  have e2:=Nat.mul_le_mul h4 k3
  rw[←Int.natAbs_mul] at e1 e2
  have:=Int.natAbs_add_le (x*v) (y*u)
  omega
theorem IsW.add{L W W':Nat}{z w:QC}(h:IsW L W z)(k:IsW L W' w):IsW L (W+W') (z+w):=by
 obtain⟨x,y,h1,h2,h3,h4⟩:=h
 obtain⟨u,v,k1,k2,k3,k4⟩:=k
 refine⟨x+u,y+v,?_,?_,?_,?_⟩
 ·rw[Rat.intCast_add,←h1,←k1,qar]; grind
 ·rw[Rat.intCast_add,←h2,←k2,qai]; grind
 ·have:=Int.natAbs_add_le x u; omega
 ·have:=Int.natAbs_add_le y v; omega
theorem IsW.cj{L W:Nat}{z:QC}(h:IsW L W z):IsW L W (cj z):=by
 obtain⟨x,y,h1,h2,h3,h4⟩:=h
 refine⟨x,-y,h1,?_,h3,by omega⟩
 rw[Rat.intCast_neg,←h2]; show -z.im*_=_; grind
def W4(L W:Nat)(p:QC×QC×QC×QC):Prop:=IsW L W p.1∧IsW L W p.2.1∧IsW L W p.2.2.1∧IsW L W p.2.2.2
theorem W4_step{L W M V:Nat}{a b c d p q r s:QC}(h:W4 L W (a,b,c,d))(k:W4 M V (p,q,r,s)):W4 (L*M) (4*(W*V)) (a*p+b*r,a*q+b*s,c*p+d*r,c*q+d*s):=by
 obtain⟨h1,h2,h3,h4⟩:=h
 obtain⟨k1,k2,k3,k4⟩:=k
 have e:4*(W*V)=2*(W*V)+2*(W*V):=by omega
 rw[e]
 exact⟨(h1.mul k1).add (h2.mul k3),(h1.mul k2).add (h2.mul k4),(h3.mul k1).add (h4.mul k3),(h3.mul k2).add (h4.mul k4)⟩
theorem IsW_of{z:QC}{L B D:Nat}(hr:z.re.den ∣ L)(hi:z.im.den ∣ L)(hL:L≤D)(h1:z.re.num.natAbs≤B)(h2:z.im.num.natAbs≤B):IsW L (B*D) z:=by
 obtain⟨u,hu⟩:=hr
 obtain⟨v,hv⟩:=hi
 refine⟨z.re.num*u,z.im.num*v,?_,?_,?_,?_⟩
 ·rw[hu,Int.natCast_mul,Rat.intCast_mul,Rat.intCast_mul,←num_den z.re]; grind
 ·rw[hv,Int.natCast_mul,Rat.intCast_mul,Rat.intCast_mul,←num_den z.im]; grind
 ·rw[Int.natAbs_mul]
  refine Nat.mul_le_mul h1 ?_
  have:=z.re.den_nz
  rw[Int.natAbs_natCast]
  exact Nat.le_trans (Nat.le_mul_of_pos_left u (Nat.pos_of_ne_zero z.re.den_nz)) (by rw[←hu]; exact hL)
 ·rw[Int.natAbs_mul]
  refine Nat.mul_le_mul h2 ?_
  have:=z.im.den_nz
  rw[Int.natAbs_natCast]
  exact Nat.le_trans (Nat.le_mul_of_pos_left v (Nat.pos_of_ne_zero z.im.den_nz)) (by rw[←hv]; exact hL)
theorem wl_m{m n j k:Nat}(h:(words m).length≤j)(g:(words n).length≤k):(words (m*n)).length≤j+k:=wl_mul h g
theorem dvd8(a b c d e f g h:Nat):a ∣ a*(b*(c*(d*(e*(f*(g*h))))))∧b ∣ a*(b*(c*(d*(e*(f*(g*h))))))∧c ∣ a*(b*(c*(d*(e*(f*(g*h))))))∧d ∣ a*(b*(c*(d*(e*(f*(g*h))))))∧e ∣ a*(b*(c*(d*(e*(f*(g*h))))))∧f ∣ a*(b*(c*(d*(e*(f*(g*h))))))∧g ∣ a*(b*(c*(d*(e*(f*(g*h))))))∧h ∣ a*(b*(c*(d*(e*(f*(g*h)))))):=by
 have l:∀{x y z:Nat},x ∣ y→x ∣ z*y:=fun h=>Nat.dvd_trans h (Nat.dvd_mul_left _ _)
 have o:∀ x y:Nat,x ∣ x*y:=fun x y=>Nat.dvd_mul_right x y
 exact⟨o _ _,l (o _ _),l (l (o _ _)),l (l (l (o _ _))),l (l (l (l (o _ _)))),l (l (l (l (l (o _ _))))),l (l (l (l (l (l (o _ _)))))),l (l (l (l (l (l (l (Nat.dvd_refl _)))))))⟩
theorem big_of(k:Nat):∃ B,(words B).length≤k+1∧∀ n,(words n).length≤k→n≤B :=
 ⟨4294967296 ^ k,words_length_le (Nat.pow_lt_pow_right (by decide) (by omega)),fun n h=>Nat.le_of_lt (Nat.lt_of_lt_of_le (lt_words n) (Nat.pow_le_pow_right (by decide) h))⟩
end Go.Proofs.YtjlhiaafnpompaaGreat
