/- Laws for the walk. -/
import Derived.Test.YthklnbaddobieaaGreatZbi
set_option linter.unusedVariables false
set_option maxHeartbeats 4000000
set_option linter.unusedSimpArgs false
namespace Tr
open Ieee
def w3:Nat:=4599676419421066581
theorem third_pos:(0:Rat)≤1 / 3:=by decide +kernel
theorem third_uq{L:Nat}(hL:L+54=UU):uq (1 / 3)=1 / 3*(18014398509481984*((2 ^ L:Nat):Rat)):=by
 rw[uq_pos third_pos,←hL,Nat.pow_add,Nat.mul_comm,Rat.natCast_mul]; rfl
theorem third_bt{L:Nat}(hL:L+54=UU):Bt L 6004799503160661=w3:=by unfold Bt w3; rw[UU_eq] at hL; omega
theorem third_nf{L:Nat}:Nf L 6004799503160661:=⟨by decide,.inr (by decide)⟩
theorem third_lo(L:Nat):((6004799503160661*2 ^ L:Nat):Rat)≤1 / 3*(18014398509481984*((2 ^ L:Nat):Rat))∧¬((6004799503160661*2 ^ L:Nat):Rat)=1 / 3*(18014398509481984*((2 ^ L:Nat):Rat)) ∧
  1 / 3*(18014398509481984*((2 ^ L:Nat):Rat))<(((6004799503160661+1)*2 ^ L:Nat):Rat)∧2*(1 / 3*(18014398509481984*((2 ^ L:Nat):Rat)))<(((2*6004799503160661+1)*2 ^ L:Nat):Rat):=by
 have hp:=two_pos L
 rw[Rat.natCast_mul,Rat.natCast_mul,Rat.natCast_mul]
 rw[show((6004799503160661:Nat):Rat)=6004799503160661 from rfl,show((6004799503160661+1:Nat):Rat)=6004799503160662 from rfl,show((2*6004799503160661+1:Nat):Rat)=12009599006321323 from rfl]
 generalize ((2 ^ L:Nat):Rat)=p at *
 refine⟨?_,?_,?_,?_⟩<;>grind
theorem third_L:∃ L,L+54=UU:=⟨UU - 54,by rw[UU_eq]⟩
theorem third_below:bel (uq (1 / 3))=w3:=by
 obtain⟨L,hL⟩:=third_L
 obtain⟨h1,_,h3,_⟩:=third_lo L
 refine below0_fun (bel_spec (uq_nonneg _)) ⟨by decide,?_,fun _=>?_⟩
 ·rw[←third_bt hL,VV_bt third_nf,third_uq hL]; exact h1
 ·rw[←third_bt hL,VV_succ third_nf,third_uq hL]; exact h3
theorem third_near:NearB (uq (1 / 3)) w3:=by
 obtain⟨L,hL⟩:=third_L
 obtain⟨h1,_,h3,h4⟩:=third_lo L
 rw[third_uq hL]
 exact⟨L,6004799503160661,third_nf,h1,h3,.inl ⟨(third_bt hL).symm,.inl h4⟩⟩
theorem third_ne:¬(VV w3:Rat)=uq (1 / 3):=by
 obtain⟨L,hL⟩:=third_L
 obtain⟨_,h2,_,_⟩:=third_lo L
 rw[←third_bt hL,VV_bt third_nf,third_uq hL]; exact h2
theorem third_nlt:¬(1 / 3:Rat)<0:=Rat.not_lt.2 third_pos
theorem third_up:upQ (1 / 3)=some (w3+1):=by
 unfold upQ; rw[if_neg third_nlt,third_below,if_neg third_ne,if_neg (by decide)]
theorem third_down:downQ (1 / 3)=some w3:=by unfold downQ; rw[if_neg third_nlt,third_below]
def FinO(r:Option Nat):Prop:=∀ y,r=some y→∃ s b,b≤GW∧y=pz s b
theorem pz0(b:Nat):pz false b=b:=by unfold pz; split; (rename_i e; exact e.symm); rfl
theorem fin_up(q:Rat):FinO (upQ q):=by
 have hg:=bel_GW q
 unfold upQ
 generalize bel (uq q)=b at *
 intro y hy
 split at hy
 ·cases hy; exact⟨true,b,hg,rfl⟩
 ·split at hy
  ·cases hy; exact⟨false,b,hg,(pz0 b).symm⟩
  ·split at hy
   ·cases hy
   ·cases hy; exact⟨false,b+1,by omega,(pz0 _).symm⟩
theorem fin_down(q:Rat):FinO (downQ q):=by
 have hg:=bel_GW q
 have hu:=fin_up (-q)
 unfold downQ
 generalize bel (uq q)=b at *
 intro y hy
 split at hy
 ·rename_i hq
  have hn:¬-q<0:=by grind
  have hu2:∀ z,upQ (-q)=some z→z≤GW:=by
   intro z hz
   have hg2:=bel_GW (-q)
   unfold upQ at hz
   generalize bel (uq (-q))=c at *
   rw[if_neg hn] at hz
   split at hz
   ·cases hz; exact hg2
   ·split at hz
    ·cases hz
    ·cases hz; omega
  cases hz:upQ (-q) with
  | none=>rw[hz] at hy; cases hy
  | some z=>rw[hz] at hy; cases hy; exact⟨true,z,hu2 z hz,rfl⟩
 ·cases hy; exact⟨false,b,hg,(pz0 b).symm⟩
theorem pz_add{s:Bool}{b:Nat}(hb:b≤GW):double.add (pz s b) 0=some (pz s b):=by
 unfold pz
 by_cases h:b=0
 ·rw[if_pos h]; exact add_zero (s:=false) (b:=0) (by decide)
 ·rw[if_neg h,add_zero hb,if_neg h]
def ecd(r:Option Nat):Int:=match r with|some _=>0|none=>6
end Tr
namespace Go.Proofs.YthklnbaddobieaaGreat
open Go.RowKit Tr
theorem flt_ex(q:Rat):∃ r,FltA q r∧FinO r:=by
 obtain⟨x,B,h,_⟩:=f64_ex q
 refine⟨_,⟨B,h,rfl⟩,fun y hy=>?_⟩
 split at hy
 ·rename_i hg; cases hy; exact⟨_,B,hg,rfl⟩
 ·cases hy
theorem third_flt:FltA (1 / 3) (some w3):=⟨w3,third_near,by rw[if_pos (by decide),show decide ((1 / 3:Rat)<0)=false from decide_eq_false third_nlt]; rfl⟩
theorem upG(r:Option Nat):upV r=.tup [.c (gx (.float .f64 (r.getD 0))),.c (gx (.int .i64 (ecd r)))]:=by cases r<;>rfl
theorem docG(r:Option Nat):docV r=.tuple #[.float .f64 (r.getD 0),.bool r.isSome]:=by cases r<;>rfl
theorem short_third:ShortF (1 / 3):=by decide +kernel
theorem lSmall:SpecC Tryz.prog false 34 [.c (gx (.int .i64 1)),.c (gx (.int .i64 3))] (.r (F1 (1 / 3:Rat))):=by
 have h:=fsmall 1 3 (by decide) (by decide) (by decide) (by decide) (by decide)
 rw[show Rat.divInt 1 3=(1 / 3:Rat) by decide +kernel] at h
 exact spec_pure eo34 h (by kernel_rfl) (by kernel_rfl)
theorem lLong(f:RwF)(n:Int)(b:Bool)(hb:b=true↔n<(f.s1.size:Int)∨n<(f.s2.size:Int)):SpecC Tryz.prog true 8 [.c (gx (.int .i64 n)),.row f.cells] (.r (.c (gx (.bool b)))):=by
 by_cases h1:n<(f.s1.size:Int)
 ·obtain rfl:b=true:=hb.2 (.inl h1)
  exact ev_sp (L:=f.cells++[gx (.int .i64 n),gx (.int .i64 (f.s1.size:Nat))]) tys_ok mixed [] [gbInt .gtr 3 .i64 (.sym 5) (.sym 4) _ _ true (congrArg some (decide_eq_true h1)) (by kernel_rfl) (by kernel_rfl)]
   [goLenS 9 Tryz.underlying9 (.sym 1) f.s1 (.sym 5) (by kernel_rfl) (by kernel_rfl) (by kernel_rfl)]
   Tryz.func8 eo8 100 [.c (.sym 4),.row [.sym 0,.sym 1,.sym 2,.sym 3]] (.r (.c (.lit (.bool true))))
 ·have hb':decide (n<(f.s2.size:Int))=b:=by rw[Bool.eq_iff_iff,decide_eq_true_eq,hb]; simp[h1]
  exact ev_sp (L:=f.cells++[gx (.int .i64 n),gx (.int .i64 (f.s1.size:Nat)),gx (.int .i64 (f.s2.size:Nat)),gx (.bool b)]) tys_ok mixed [] [gbInt .gtr 3 .i64 (.sym 5) (.sym 4) _ _ false (congrArg some (decide_eq_false h1)) (by kernel_rfl) (by kernel_rfl),gb .gtr 3 (.c (.sym 6)) (.c (.sym 4)) (.sym 7) (int_cmp .gtr _ .i64 _ _ b (congrArg some hb')) (by kernel_rfl) (by kernel_rfl) (by kernel_rfl)]
   [goLenS 9 Tryz.underlying9 (.sym 1) f.s1 (.sym 5) (by kernel_rfl) (by kernel_rfl) (by kernel_rfl),goLenS 9 Tryz.underlying9 (.sym 3) f.s2 (.sym 6) (by kernel_rfl) (by kernel_rfl) (by kernel_rfl)]
   Tryz.func8 eo8 100 [.c (.sym 4),.row [.sym 0,.sym 1,.sym 2,.sym 3]] (.r (.c (.sym 7)))
theorem lTold(r:Option Nat)(h:FinO r):SpecC Tryz.prog true 17 [.c (gx (.float .f64 (r.getD 0))),.c (gx (.int .i64 (ecd r))),.c (gx (.float .f64 (r.getD 0))),.c (gx (.bool r.isSome))] (B1 true):=by
  cases r with
  | none =>
    exact ev_sp (L:=[]) tys_ok mixed [] []
      [goExt 20 [.c (.lit (.flt 0))] (.c (.lit (.int .u64 0))) (fun w=>bits_of 0 w) (by kernel_rfl) (by kernel_rfl)]
      Tryz.func17 eo17 100 [.c (.lit (.flt 0)),.c (.lit (.int .i64 6)),.c (.lit (.flt 0)),.c (.lit (.bool false))] (.r (.c (.lit (.bool true))))
  | some y =>
    obtain⟨s,b,hb,rfl⟩:=h y rfl
    exact ev_sp (L:=[gx (.float .f64 (pz s b)),gx (.int .u64 (pz s b:Nat))]) tys_ok mixed []
      [gb .add 28 (.c (.sym 0)) (.c (.lit (.flt 0))) (.sym 0) (fl_arith .add _ _ _ _ (pz_add (s:=s) (b:=b) hb)) (by kernel_rfl) (by kernel_rfl) (by kernel_rfl),gbInt .eql 41 .u64 (.sym 1) (.sym 1) (pz s b:Nat) (pz s b:Nat) true (congrArg some (decide_eq_true (p:=((pz s b:Nat):Int)=(pz s b:Nat)) rfl)) (by kernel_rfl) (by kernel_rfl)]
      [goExt 20 [.c (.sym 0)] (.c (.sym 1)) (fun w=>bits_of (pz s b) w) (by kernel_rfl) (by kernel_rfl)]
      Tryz.func17 eo17 100 [.c (.sym 0),.c (.lit (.int .i64 0)),.c (.sym 0),.c (.lit (.bool true))] (.r (.c (.lit (.bool true))))
theorem lKnown:SpecC Tryz.prog true 9 [] (B1 true):=by
  have h1:=nFloat_any (1 / 3) short_third third_flt
  have h2:=nUp_ok (1 / 3) short_third
  have h3:=nDown_ok (1 / 3) short_third
  rw[third_up] at h2
  rw[third_down] at h3
  exact ev_sp (L:=rF (1 / 3)++[gx (.float .f64 w3),gx (.float .f64 (w3+1))]) tys_ok mixed
    [gs lSmall [.c (.lit (.int .i64 1)),.c (.lit (.int .i64 3))] (.r (.row [.sym 0,.sym 1,.sym 2,.sym 3])),gs h1 [.row [.sym 0,.sym 1,.sym 2,.sym 3]] (.tup [.c (.sym 4),.c (.lit (.int .i64 0))]),gs h2 [.row [.sym 0,.sym 1,.sym 2,.sym 3]] (.tup [.c (.sym 5),.c (.lit (.int .i64 0))]),gs h3 [.row [.sym 0,.sym 1,.sym 2,.sym 3]] (.tup [.c (.sym 4),.c (.lit (.int .i64 0))])]
    []
    [goExt 20 [.c (.sym 4)] (.c (.lit (.int .u64 4599676419421066581))) (fun w=>bits_of w3 w) (by kernel_rfl) (by kernel_rfl),
     goExt 20 [.c (.sym 5)] (.c (.lit (.int .u64 4599676419421066582))) (fun w=>bits_of (w3+1) w) (by kernel_rfl) (by kernel_rfl)]
    Tryz.func9 eo9 100 [] (.r (.c (.lit (.bool true))))
end Go.Proofs.YthklnbaddobieaaGreat
set_option linter.unusedSimpArgs false
namespace Go.Proofs.YthklnbaddobieaaGreat
open Go.RowKit Tr
theorem rfMayR(f:RwF)(r:Bool)(hr:r=true↔FracOk f.val):SpecC Tryz.prog false 13 [.row f.cells] (.r (.c (gx (.bool r)))) :=
 spec_pure eo13 (fmay f.n1 f.n2 f.s1 f.s2 r hr) (by kernel_rfl) (by kernel_rfl)
theorem nf_long(f:RwF)(h1:(300:Int)<(f.s1.size:Int)∨(300:Int)<(f.s2.size:Int))(h2:¬((1024:Int)<(f.s1.size:Int)∨(1024:Int)<(f.s2.size:Int))):SpecC Tryz.prog true 3 [.row f.cells] (B1 true) :=
  ev_sp (L:=f.cells) tys_ok mixed
    [gs (lLong f 300 true ⟨fun _=>h1,fun _=>rfl⟩) [.c (.lit (.int .i64 300)),.row [.sym 0,.sym 1,.sym 2,.sym 3]] (.r (.c (.lit (.bool true)))),gs (lLong f 1024 false ⟨fun e=>(by cases e),fun k=>absurd k h2⟩) [.c (.lit (.int .i64 1024)),.row [.sym 0,.sym 1,.sym 2,.sym 3]] (.r (.c (.lit (.bool false)))),gs lKnown [] (.r (.c (.lit (.bool true))))] [] []
    Tryz.func3 eo3 100 [.row [.sym 0,.sym 1,.sym 2,.sym 3]] (.r (.c (.lit (.bool true))))
theorem nf_bad(f:RwF)(hb:¬FracOk f.val)(b:Bool)(h1:b=true↔(300:Int)<(f.s1.size:Int)∨(300:Int)<(f.s2.size:Int))(h2:b=true→((1024:Int)<(f.s1.size:Int)∨(1024:Int)<(f.s2.size:Int))):SpecC Tryz.prog true 3 [.row f.cells] (B1 true):=by
  have hm:=rfMayR f false ⟨fun e=>(by cases e),fun k=>absurd k hb⟩
  cases b
  · exact ev_sp (L := f.cells) tys_ok mixed
      [gs (lLong f 300 false h1) [.c (.lit (.int .i64 300)),.row [.sym 0,.sym 1,.sym 2,.sym 3]] (.r (.c (.lit (.bool false)))),gs (nFloat_bad f hb) [.row [.sym 0,.sym 1,.sym 2,.sym 3]] (.tup [.c (.lit (.flt 0)),.c (.lit (.int .i64 2))]),gs (nUp_bad f hb) [.row [.sym 0,.sym 1,.sym 2,.sym 3]] (.tup [.c (.lit (.flt 0)),.c (.lit (.int .i64 2))]),gs (nDown_bad f hb) [.row [.sym 0,.sym 1,.sym 2,.sym 3]] (.tup [.c (.lit (.flt 0)),.c (.lit (.int .i64 2))]),gs hm [.row [.sym 0,.sym 1,.sym 2,.sym 3]] (.r (.c (.lit (.bool false)))),gs lKnown [] (.r (.c (.lit (.bool true))))]
      [gb .eql 28 (.c (.lit (.flt 0))) (.c (.lit (.flt 0))) (.lit (.bool true)) (fl_eql _ 0 0 true (by decide +kernel)) (by kernel_rfl) (by kernel_rfl) (by kernel_rfl)] []
      Tryz.func3 eo3 100 [.row [.sym 0,.sym 1,.sym 2,.sym 3]] (.r (.c (.lit (.bool true))))
  · exact ev_sp (L := f.cells) tys_ok mixed
      [gs (lLong f 300 true h1) [.c (.lit (.int .i64 300)),.row [.sym 0,.sym 1,.sym 2,.sym 3]] (.r (.c (.lit (.bool true)))),gs (lLong f 1024 true ⟨fun _=>h2 rfl,fun _=>rfl⟩) [.c (.lit (.int .i64 1024)),.row [.sym 0,.sym 1,.sym 2,.sym 3]] (.r (.c (.lit (.bool true)))),gs (nFloat_bad f hb) [.row [.sym 0,.sym 1,.sym 2,.sym 3]] (.tup [.c (.lit (.flt 0)),.c (.lit (.int .i64 2))]),gs (nUp_bad f hb) [.row [.sym 0,.sym 1,.sym 2,.sym 3]] (.tup [.c (.lit (.flt 0)),.c (.lit (.int .i64 2))]),gs (nDown_bad f hb) [.row [.sym 0,.sym 1,.sym 2,.sym 3]] (.tup [.c (.lit (.flt 0)),.c (.lit (.int .i64 2))]),gs hm [.row [.sym 0,.sym 1,.sym 2,.sym 3]] (.r (.c (.lit (.bool false)))),gs lKnown [] (.r (.c (.lit (.bool true))))]
      [gb .eql 28 (.c (.lit (.flt 0))) (.c (.lit (.flt 0))) (.lit (.bool true)) (fl_eql _ 0 0 true (by decide +kernel)) (by kernel_rfl) (by kernel_rfl) (by kernel_rfl)] []
      Tryz.func3 eo3 100 [.row [.sym 0,.sym 1,.sym 2,.sym 3]] (.r (.c (.lit (.bool true))))
def rwQ(q:Rat):RwF:=⟨decide (q.num<0),false,strN q.num.natAbs,strN q.den⟩
theorem nf_ok(q:Rat)(h:ShortF q)(h1:¬((300:Int)<(strN q.num.natAbs).size∨(300:Int)<(strN q.den).size)):SpecC Tryz.prog true 3 [.row (rF q)] (B1 true):=by
  have hm:=rfMayR (rwQ q) true ⟨fun _=>⟨q,rfl,h.1,h.2⟩,fun _=>rfl⟩
  have hl:=lLong (rwQ q) 300 false ⟨fun e=>(by cases e),fun k=>absurd k h1⟩
  obtain⟨r,hr,hf⟩:=flt_ex q
  have a1:=nFloat_any q h hr
  have a2:=nUp_ok q h
  have a3:=nDown_ok q h
  have d1:=dFloat q h hr
  have d2:=dUp q h
  have d3:=dDown q h
  have f2:=fin_up q
  have f3:=fin_down q
  generalize upQ q=r2 at *
  generalize downQ q=r3 at *
  rw[upG] at a1 a2 a3
  rw[docG] at d1 d2 d3
  have t1:=lTold r hf
  have t2:=lTold r2 f2
  have t3:=lTold r3 f3
  exact ev_sp (L:=rF q++[gx (.float .f64 (r.getD 0)),gx (.int .i64 (ecd r)),gx (.bool r.isSome),gx (.float .f64 (r2.getD 0)),gx (.int .i64 (ecd r2)),gx (.bool r2.isSome),gx (.float .f64 (r3.getD 0)),gx (.int .i64 (ecd r3)),gx (.bool r3.isSome)]) tys_ok mixed
    [gs hl [.c (.lit (.int .i64 300)),.row [.sym 0,.sym 1,.sym 2,.sym 3]] (.r (.c (.lit (.bool false)))),gs a1 [.row [.sym 0,.sym 1,.sym 2,.sym 3]] (.tup [.c (.sym 4),.c (.sym 5)]),gs a2 [.row [.sym 0,.sym 1,.sym 2,.sym 3]] (.tup [.c (.sym 7),.c (.sym 8)]),gs a3 [.row [.sym 0,.sym 1,.sym 2,.sym 3]] (.tup [.c (.sym 10),.c (.sym 11)]),gs hm [.row [.sym 0,.sym 1,.sym 2,.sym 3]] (.r (.c (.lit (.bool true)))),gp 14 [.row [.sym 0,.sym 1,.sym 2,.sym 3]] (.tup [.c (.sym 4),.c (.sym 6)]) eo14 d1 (by kernel_rfl) (by kernel_rfl),gp 15 [.row [.sym 0,.sym 1,.sym 2,.sym 3]] (.tup [.c (.sym 7),.c (.sym 9)]) eo15 d2 (by kernel_rfl) (by kernel_rfl),gp 16 [.row [.sym 0,.sym 1,.sym 2,.sym 3]] (.tup [.c (.sym 10),.c (.sym 12)]) eo16 d3 (by kernel_rfl) (by kernel_rfl),gs t1 [.c (.sym 4),.c (.sym 5),.c (.sym 4),.c (.sym 6)] (.r (.c (.lit (.bool true)))),gs t2 [.c (.sym 7),.c (.sym 8),.c (.sym 7),.c (.sym 9)] (.r (.c (.lit (.bool true)))),gs t3 [.c (.sym 10),.c (.sym 11),.c (.sym 10),.c (.sym 12)] (.r (.c (.lit (.bool true)))),gs lKnown [] (.r (.c (.lit (.bool true))))] [] []
    Tryz.func3 eo3 100 [.row [.sym 0,.sym 1,.sym 2,.sym 3]] (.r (.c (.lit (.bool true))))
theorem floats_true(f:RwF):SpecC Tryz.prog true 3 [.row f.cells] (B1 true):=by
 by_cases c1:(300:Int)<(f.s1.size:Int)∨(300:Int)<(f.s2.size:Int)
 ·by_cases c2:(1024:Int)<(f.s1.size:Int)∨(1024:Int)<(f.s2.size:Int)
  ·refine nf_bad f ?_ true ⟨fun _=>c1,fun _=>rfl⟩ (fun _=>c2)
   rintro⟨q,e,k1,k2⟩
   obtain⟨-,e1,-,e2⟩:=encF_parts e
   rw[←e1] at k1
   rw[←e2] at k2
   omega
  ·exact nf_long f c1 c2
 ·by_cases hk:FracOk f.val
  ·obtain⟨q,e,k1,k2⟩:=hk
   obtain⟨e0,e1,e2,e3⟩:=encF_parts e
   obtain⟨n1,n2,s1,s2⟩:=f
   subst e0 e1 e2 e3
   exact nf_ok q ⟨k1,k2⟩ c1
  ·exact nf_bad f hk false ⟨fun e=>(by cases e),fun k=>absurd k c1⟩ (fun e=>by cases e)
end Go.Proofs.YthklnbaddobieaaGreat
