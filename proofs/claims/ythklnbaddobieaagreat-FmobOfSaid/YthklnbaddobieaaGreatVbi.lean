/- Laws for the walk. -/
import Derived.Test.YthklnbaddobieaaGreatVbh
set_option linter.unusedVariables false
set_option maxHeartbeats 4000000
set_option linter.unusedSimpArgs false
namespace Tr
open Ieee
def w3:Nat:=4599676419421066581
def FinO(r:Option Nat):Prop:=∀ y,r=some y→∃ s b,b≤GW∧y=pz s b
def ecd(r:Option Nat):Int:=match r with|some _=>0|none=>6
end Tr
namespace Go.Proofs.YthklnbaddobieaaGreat
open Go.RowKit Tr
theorem flt_ex(q:Rat):∃ r,FltA q r∧FinO r:=by
 obtain⟨x,B,h,_⟩:=f64_ex q
 refine⟨_,⟨B,h,rfl⟩,fun y hy=>?_⟩
 split at hy
 ·rename_i hg; cases hy; exact⟨_,B,hg,rfl⟩
 ·cases hy
theorem upG(r:Option Nat):upV r=.tup [.c (gx (.float .f64 (r.getD 0))),.c (gx (.int .i64 (ecd r)))]:=by cases r<;>rfl
theorem docG(r:Option Nat):docV r=.tuple #[.float .f64 (r.getD 0),.bool r.isSome]:=by cases r<;>rfl
end Go.Proofs.YthklnbaddobieaaGreat
set_option linter.unusedSimpArgs false
namespace Tr
def bothS(r1 r2:Option Nat):Bool:=r1.isSome && r2.isSome
def cA(r1 r2:Option Nat):Nat:=if bothS r1 r2 then r1.getD 0 else 0
def cB(r1 r2:Option Nat):Nat:=if bothS r1 r2 then r2.getD 0 else 0
def cE(r1 r2:Option Nat):Int:=if bothS r1 r2 then 0 else 6
def FinW(y:Nat):Prop:=∃ s b,b≤GW∧y=pz s b
theorem finW_zero:FinW 0:=⟨false,0,by decide,rfl⟩
theorem finW_getD{r:Option Nat}(h:FinO r):FinW (r.getD 0):=by
 cases r with
 | none=>exact finW_zero
 | some y=>exact h y rfl
theorem finW_if{r:Option Nat}(h:FinO r)(c:Bool):FinW (if c then r.getD 0 else 0):=by cases c; exact finW_zero; exact finW_getD h
theorem pz_nan{s:Bool}{b:Nat}(hb:b≤GW):(Ieee.double.order (pz s b) (pz s b) != some .eq)=false:=by
 have key:∀(s:Bool) (b:Nat),b≤GW→(Ieee.double.order (sgw s b) (sgw s b) != some .eq)=false:=fun s b hb=>by
  rw[ord_nan (by unfold GW at hb; omega)]; exact decide_eq_false (by omega)
 unfold pz
 by_cases h:b=0
 ·rw[if_pos h]; exact key false 0 (by decide)
 ·rw[if_neg h]; exact key s b hb
end Tr
namespace Go.Proofs.YthklnbaddobieaaGreat
open Go.RowKit Tr
theorem gpure{f:FuncId}{q:Rat}{r:Option Nat}(h:SpecC Tryz.prog true f [F1 q] (upV r)):PureC Tryz.prog f [encF q] (.tuple #[.float .f64 (r.getD 0),.int .i64 (ecd r)]):=by
 rw[upG] at h
 exact h.pure (by kernel_rfl) (by kernel_rfl)
theorem nCplx(z:QC)(h:ShortZ z){r1 r2:Option Nat}(h1:FltA z.re r1)(h2:FltA z.im r2) :
  SpecC Tryz.prog true 65 [.row (rG z)] (.tup [.c (gx (.complex .f64 (cA r1 r2) (cB r1 r2))),.c (gx (.int .i64 (cE r1 r2)))]) :=
 spec1 eo65 fun w A u hR _ hu=>by
  rw[(FR.val_ok (u:=.agg #[.bool (decide (z.re.num<0)),.string (strN z.re.num.natAbs),.bool false,.string (strN z.re.den),.bool (decide (z.im.num<0)),.string (strN z.im.num.natAbs),.bool false,.string (strN z.im.den)]) (x:=.row (rG z)) (by kernel_rfl)).1 hu]
  have hM:=(pGMay (rawQ z) (sz_short h) true ⟨fun _=>rawQ_ok h,fun _=>rfl⟩).pure (vs:=[.agg #[.bool (decide (z.re.num<0)),.string (strN z.re.num.natAbs),.bool false,.string (strN z.re.den),.bool (decide (z.im.num<0)),.string (strN z.im.num.natAbs),.bool false,.string (strN z.im.den)]]) (v:=.bool true) (by kernel_rfl) (by kernel_rfl)
  have f0:=gpure (nFloat_any z.re h.1 h1)
  have f1:=gpure (nFloat_any z.im h.2 h2)
  refine(complex_walk (decide (z.re.num<0)) false (decide (z.im.num<0)) false (strN z.re.num.natAbs) (strN z.re.den) (strN z.im.num.natAbs) (strN z.im.den)
   (fun j=>match j with|0=>#[.bool (decide (z.re.num<0)),.string (strN z.re.num.natAbs),.bool false,.string (strN z.re.den)]|_=>#[.bool (decide (z.im.num<0)),.string (strN z.im.num.natAbs),.bool false,.string (strN z.im.den)]) rfl rfl
   (fun j=>by cases j<;>rfl) (fun j=>by cases j<;>(rw[List.all_toArray]; rfl)) (fun j=>match j with|0=>r1.getD 0|_=>r2.getD 0) (fun j=>match j with|0=>ecd r1|_=>ecd r2)
   hM (fun j=>by cases j; exact f0; exact f1) (.tuple #[.complex .f64 (cA r1 r2) (cB r1 r2),.int .i64 (cE r1 r2)]) ?_ ?_ w).mono ?_
  ·rintro⟨a,b⟩
   cases r1 with
   | none=>cases a
   | some x=>cases r2 with
    | none=>cases b
    | some y=>rfl
  ·intro k
   cases r1 with
   | none=>rfl
   | some x=>cases r2 with
    | none=>rfl
    | some y=>exact absurd ⟨rfl,rfl⟩ k
  ·rintro e w' ⟨rfl,hb⟩
   exact⟨_,rfl,⟨[_,_],rfl,rfl,rfl,trivial⟩,hb⟩
theorem dNaN(y:Nat)(h:FinW y):PureC Tryz.prog 142 [.float .f64 y] (.bool false):=by
 obtain⟨s,b,hb,rfl⟩:=h
 exact ev_pure (hp:=false) (L:=[gx (.float .f64 (pz s b))]) tys_ok mixed [] [gb .neq 28 (.c (.sym 0)) (.c (.sym 0)) (.lit (.bool false)) (fl_neq _ _ _ false (pz_nan (s:=s) (b:=b) hb)) (by kernel_rfl) (by kernel_rfl) (by kernel_rfl)] []
  Tryz.func142 100 [.c (.sym 0)] (.r (.c (.lit (.bool false)))) (by kernel_rfl) (by kernel_rfl) (by kernel_rfl)
theorem dLike(y:Nat)(h:FinW y):PureC Tryz.prog 76 [.float .f64 y,.float .f64 y] (.bool true) :=
 ev_pure (hp:=false) (L:=[gx (.float .f64 y),gx (.int .u64 (y:Nat))]) tys_ok mixed [gp 142 [.c (.sym 0)] (.r (.c (.lit (.bool false)))) eo142 (dNaN y h) (by kernel_rfl) (by kernel_rfl)]
  [gbInt .eql 41 .u64 (.sym 1) (.sym 1) (y:Nat) (y:Nat) true (congrArg some (decide_eq_true (p:=((y:Nat):Int)=(y:Nat)) rfl)) (by kernel_rfl) (by kernel_rfl)]
  [goExt 20 [.c (.sym 0)] (.c (.sym 1)) (fun w=>bits_of y w) (by kernel_rfl) (by kernel_rfl)]
  Tryz.func76 100 [.c (.sym 0),.c (.sym 0)] (.r (.c (.lit (.bool true)))) (by kernel_rfl) (by kernel_rfl) (by kernel_rfl)
theorem dSame(x y:Nat)(hx:FinW x)(hy:FinW y):PureC Tryz.prog 68 [.agg #[.float .f64 x,.float .f64 y],.agg #[.float .f64 x,.float .f64 y]] (.bool true) :=
  ev_pure (hp:=false) (L:=[gx (.float .f64 x),gx (.float .f64 y)]) tys_ok mixed
    [gp 76 [.c (.sym 0),.c (.sym 0)] (.r (.c (.lit (.bool true)))) eo76 (dLike x hx) (by kernel_rfl) (by kernel_rfl),gp 76 [.c (.sym 1),.c (.sym 1)] (.r (.c (.lit (.bool true)))) eo76 (dLike y hy) (by kernel_rfl) (by kernel_rfl)] [] []
    Tryz.func68 100 [.row [.sym 0,.sym 1],.row [.sym 0,.sym 1]] (.r (.c (.lit (.bool true)))) (by kernel_rfl) (by kernel_rfl) (by kernel_rfl)
theorem dCplx (z : QC) (h : ShortZ z) {r1 r2 : Option Nat} (h1 : FltA z.re r1) (h2 : FltA z.im r2) :
    SpecC Tryz.prog false 67 [.row (rG z)] (.tup [.row [gx (.float .f64 (cA r1 r2)),gx (.float .f64 (cB r1 r2))],.c (gx (.bool (bothS r1 r2)))]):=by
  have d1:=dFloat z.re h.1 h1
  have d2:=dFloat z.im h.2 h2
  rw[docG] at d1 d2
  cases r1 with
  | none =>
    exact ev_sp (L:=rG z++[gx (.float .f64 (r2.getD 0)),gx (.bool r2.isSome)]) tys_ok mixed
      [gp 14 [.row [.sym 0,.sym 1,.sym 2,.sym 3]] (.tup [.c (.lit (.flt 0)),.c (.lit (.bool false))]) eo14 d1 (by kernel_rfl) (by kernel_rfl),gp 14 [.row [.sym 4,.sym 5,.sym 6,.sym 7]] (.tup [.c (.sym 8),.c (.sym 9)]) eo14 d2 (by kernel_rfl) (by kernel_rfl)] [] []
      Tryz.func67 eo67 100 [.row [.sym 0,.sym 1,.sym 2,.sym 3,.sym 4,.sym 5,.sym 6,.sym 7]] (.tup [.row [.lit (.flt 0),.lit (.flt 0)],.c (.lit (.bool false))])
  | some x =>
    cases r2 with
    | none =>
      exact ev_sp (L:=rG z++[gx (.float .f64 x)]) tys_ok mixed
        [gp 14 [.row [.sym 0,.sym 1,.sym 2,.sym 3]] (.tup [.c (.sym 8),.c (.lit (.bool true))]) eo14 d1 (by kernel_rfl) (by kernel_rfl),gp 14 [.row [.sym 4,.sym 5,.sym 6,.sym 7]] (.tup [.c (.lit (.flt 0)),.c (.lit (.bool false))]) eo14 d2 (by kernel_rfl) (by kernel_rfl)] [] []
        Tryz.func67 eo67 100 [.row [.sym 0,.sym 1,.sym 2,.sym 3,.sym 4,.sym 5,.sym 6,.sym 7]] (.tup [.row [.lit (.flt 0),.lit (.flt 0)],.c (.lit (.bool false))])
    | some y =>
      exact ev_sp (L:=rG z++[gx (.float .f64 x),gx (.float .f64 y)]) tys_ok mixed
        [gp 14 [.row [.sym 0,.sym 1,.sym 2,.sym 3]] (.tup [.c (.sym 8),.c (.lit (.bool true))]) eo14 d1 (by kernel_rfl) (by kernel_rfl),gp 14 [.row [.sym 4,.sym 5,.sym 6,.sym 7]] (.tup [.c (.sym 9),.c (.lit (.bool true))]) eo14 d2 (by kernel_rfl) (by kernel_rfl)] [] []
        Tryz.func67 eo67 100 [.row [.sym 0,.sym 1,.sym 2,.sym 3,.sym 4,.sym 5,.sym 6,.sym 7]] (.tup [.row [.sym 8,.sym 9],.c (.lit (.bool true))])
end Go.Proofs.YthklnbaddobieaaGreat
namespace Go.Proofs.YthklnbaddobieaaGreat
open Go.RowKit Tr
end Go.Proofs.YthklnbaddobieaaGreat
namespace Go.Proofs.YthklnbaddobieaaGreat
open Go.RowKit Tr
end Go.Proofs.YthklnbaddobieaaGreat
namespace Go.Proofs.YthklnbaddobieaaGreat
open Go.RowKit Tr
structure RawM where
 a:RawG
 b:RawG
 c:RawG
 d:RawG
 t:Bool
def RawM.val(m:RawM):Value:=.agg (m.a.vals++m.b.vals++m.c.vals++m.d.vals++[Value.bool m.t]).toArray
end Go.Proofs.YthklnbaddobieaaGreat
set_option linter.unusedSimpArgs false
namespace Go.Proofs.YthklnbaddobieaaGreat
open Go.RowKit Tr
open Classical
theorem eSame(x y:QC)(b_x:ZL x 2000000)(b_y:ZL y 2000000) :SpecC Tryz.prog true 185 [.row (cn x),.row (cn y)] (if(x - y)=(⟨0,0⟩:QC) then .r (.c (gl (.bool true))) else .r (.c (gl (.bool false)))) :=
  have t1:=pNSub x y b_x b_y (by decide)
  have t2:=pNZero (x - y)
  (Classical.em ((x - y) = (⟨0,0⟩ : QC))).elim (fun h0 => .it h0 (ev_sp (L := [cn x,cn y,cn (x - y)].flatten) tys_ok mixed
     [gs (t1) [sy [0,1],sy [2,3]] (.r (sy [4,5])),gs (t2 true (tI h0)) [sy [4,5]] (.r (.c (.lit (.bool true))))]
     [] [] Tryz.func185 eo185 2000 [sy [0,1],sy [2,3]] (.r (.c (.lit (.bool true))))))
   (fun h0=>.ie (fun h=>h0 h) (ev_sp (L:=[cn x,cn y,cn (x - y)].flatten) tys_ok mixed
     [gs (t1) [sy [0,1],sy [2,3]] (.r (sy [4,5])),gs (t2 false (fI h0)) [sy [4,5]] (.r (.c (.lit (.bool false))))]
     [] [] Tryz.func185 eo185 2000 [sy [0,1],sy [2,3]] (.r (.c (.lit (.bool false))))))
theorem pNSame(x y:QC){m l:Nat}(hx:ZL x m)(hy:ZL y l)(hb:m+l<2000000)(r:Bool)(hr:r=true↔x=y):SpecC Tryz.prog true 185 [N1 x,N1 y] (B1 r):=by
 have h:=eSame x y (hx.mono (by omega)) (hy.mono (by omega))
 cases r
 ·exact h.f (fun e=>by cases hr.2 (qc_sub0.1 e))
 ·exact h.t (qc_sub0.2 (hr.1 rfl))
theorem eDet(a b c d:QC)(t:Bool)(b_a:ZL a 2000000)(b_b:ZL b 2000000)(b_c:ZL c 2000000)(b_d:ZL d 2000000) :SpecC Tryz.prog true 182 [.row (cn a++cn b++cn c++cn d++[gx (.bool t)])] (.r (.row (cn ((a*d) - (b*c))))) :=
  ev_sp (L := [cn a,cn b,cn c,cn d,[gx (.bool t)],cn (a * d),cn (b * c),cn ((a * d) - (b * c))].flatten) tys_ok mixed
     [gs (pNMul a d b_a b_d (by decide)) [sy [0,1],sy [6,7]] (.r (sy [9,10])),gs (pNMul b c b_b b_c (by decide)) [sy [2,3],sy [4,5]] (.r (sy [11,12])),gs (pNSub (a*d) (b*c) (ZL_mul b_a b_d) (ZL_mul b_b b_c) (by decide)) [sy [9,10],sy [11,12]] (.r (sy [13,14]))]
     [] [] Tryz.func182 eo182 2000 [.row (syms 0 9)] (.r (sy [13,14]))
theorem eOpen(a b c d:QC)(t:Bool)(b_a:ShortZ a)(b_b:ShortZ b)(b_c:ShortZ c)(b_d:ShortZ d) :SpecC Tryz.prog true 127 [.row ((rawQ a).cells++(rawQ b).cells++(rawQ c).cells++(rawQ d).cells++[gx (.bool t)])] (if((a*d) - (b*c))=(⟨0,0⟩:QC) then .tup [.row ([gl .nilp,gl .nilp,gl .nilp,gl .nilp,gl .nilp,gl .nilp,gl .nilp,gl .nilp,gl (.bool false)]),.c (gl (.bool false))] else if c=(⟨1,0⟩:QC) then .tup [.row (cn a++cn b++cn c++cn d++[gx (.bool t)]),.c (gl (.bool true))] else if c=(⟨0,0⟩:QC)∧d=(⟨1,0⟩:QC) then .tup [.row (cn a++cn b++cn c++cn d++[gx (.bool t)]),.c (gl (.bool true))] else .tup [.row (cn a++cn b++cn c++cn d++[gx (.bool t)]),.c (gl (.bool false))]) :=
  have t1:=eDet a b c d t ((ZL_short b_a).mono (by omega)) ((ZL_short b_b).mono (by omega)) ((ZL_short b_c).mono (by omega)) ((ZL_short b_d).mono (by omega))
  have t2:=pNZero ((a*d) - (b*c))
  have t3:=pNInt 1 0 (by decide) (by decide) (by decide) (by decide)
  have t4:=pNSame c (⟨1,0⟩:QC) (ZL_short b_c) (ZL_int 1 0 (by decide) (by decide) (by decide) (by decide)) (by decide)
  have t5:=pNSame d (⟨1,0⟩:QC) (ZL_short b_d) (ZL_int 1 0 (by decide) (by decide) (by decide) (by decide)) (by decide)
  (Classical.em (((a * d) - (b * c)) = (⟨0,0⟩ : QC))).elim (fun h0 => .it h0 (ev_sp (L := [(rawQ a).cells,(rawQ b).cells,(rawQ c).cells,(rawQ d).cells,[gx (.bool t)],cn a,cn b,cn c,cn d,cn ((a * d) - (b * c))].flatten) tys_ok mixed
     [gs (pEOf a b_a) [.row (syms 0 8)] (.tup [sy [33,34],.c (.lit (.bool true))]),gs (pEOf b b_b) [.row (syms 8 8)] (.tup [sy [35,36],.c (.lit (.bool true))]),gs (pEOf c b_c) [.row (syms 16 8)] (.tup [sy [37,38],.c (.lit (.bool true))]),gs (pEOf d b_d) [.row (syms 24 8)] (.tup [sy [39,40],.c (.lit (.bool true))]),gs (t1) [.row (flA [syms 33 8,[.sym 32]])] (.r (sy [41,42])),gs (t2 true (tI h0)) [sy [41,42]] (.r (.c (.lit (.bool true))))]
     [] [] Tryz.func127 eo127 2000 [.row (syms 0 33)] (.tup [.row [.lit .nilp,.lit .nilp,.lit .nilp,.lit .nilp,.lit .nilp,.lit .nilp,.lit .nilp,.lit .nilp,.lit (.bool false)],.c (.lit (.bool false))])))
   (fun h0=>.ie h0 ((Classical.em (c=(⟨1,0⟩:QC))).elim (fun h1=>.it h1 (ev_sp (L:=[(rawQ a).cells,(rawQ b).cells,(rawQ c).cells,(rawQ d).cells,[gx (.bool t)],cn a,cn b,cn c,cn d,cn ((a*d) - (b*c)),cn (⟨1,0⟩:QC)].flatten) tys_ok mixed
     [gs (pEOf a b_a) [.row (syms 0 8)] (.tup [sy [33,34],.c (.lit (.bool true))]),gs (pEOf b b_b) [.row (syms 8 8)] (.tup [sy [35,36],.c (.lit (.bool true))]),gs (pEOf c b_c) [.row (syms 16 8)] (.tup [sy [37,38],.c (.lit (.bool true))]),gs (pEOf d b_d) [.row (syms 24 8)] (.tup [sy [39,40],.c (.lit (.bool true))]),gs (t1) [.row (flA [syms 33 8,[.sym 32]])] (.r (sy [41,42])),gs (t2 false (fI h0)) [sy [41,42]] (.r (.c (.lit (.bool false)))),gs (t3) [.c (.lit (.int .i64 1)),.c (.lit (.int .i64 0))] (.r (sy [43,44])),gs (t4 true (tI h1)) [sy [37,38],sy [43,44]] (.r (.c (.lit (.bool true))))]
     [] [] Tryz.func127 eo127 2000 [.row (syms 0 33)] (.tup [.row (flA [syms 33 8,[.sym 32]]),.c (.lit (.bool true))])))
   (fun h1=>.ie h1 ((Classical.em (c=(⟨0,0⟩:QC))).elim (fun h2=>(Classical.em (d=(⟨1,0⟩:QC))).elim (fun h3=>.it ⟨h2,h3⟩ (ev_sp (L:=[(rawQ a).cells,(rawQ b).cells,(rawQ c).cells,(rawQ d).cells,[gx (.bool t)],cn a,cn b,cn c,cn d,cn ((a*d) - (b*c)),cn (⟨1,0⟩:QC)].flatten) tys_ok mixed
     [gs (pEOf a b_a) [.row (syms 0 8)] (.tup [sy [33,34],.c (.lit (.bool true))]),gs (pEOf b b_b) [.row (syms 8 8)] (.tup [sy [35,36],.c (.lit (.bool true))]),gs (pEOf c b_c) [.row (syms 16 8)] (.tup [sy [37,38],.c (.lit (.bool true))]),gs (pEOf d b_d) [.row (syms 24 8)] (.tup [sy [39,40],.c (.lit (.bool true))]),gs (t1) [.row (flA [syms 33 8,[.sym 32]])] (.r (sy [41,42])),gs (t2 false (fI h0)) [sy [41,42]] (.r (.c (.lit (.bool false)))),gs (t3) [.c (.lit (.int .i64 1)),.c (.lit (.int .i64 0))] (.r (sy [43,44])),gs (t4 false (fI h1)) [sy [37,38],sy [43,44]] (.r (.c (.lit (.bool false)))),gs (pNZero c true (tI h2)) [sy [37,38]] (.r (.c (.lit (.bool true)))),gs (t5 true (tI h3)) [sy [39,40],sy [43,44]] (.r (.c (.lit (.bool true))))]
     [] [] Tryz.func127 eo127 2000 [.row (syms 0 33)] (.tup [.row (flA [syms 33 8,[.sym 32]]),.c (.lit (.bool true))])))
   (fun h3=>.ie (fun h=>h3 h.2) (ev_sp (L:=[(rawQ a).cells,(rawQ b).cells,(rawQ c).cells,(rawQ d).cells,[gx (.bool t)],cn a,cn b,cn c,cn d,cn ((a*d) - (b*c)),cn (⟨1,0⟩:QC)].flatten) tys_ok mixed
     [gs (pEOf a b_a) [.row (syms 0 8)] (.tup [sy [33,34],.c (.lit (.bool true))]),gs (pEOf b b_b) [.row (syms 8 8)] (.tup [sy [35,36],.c (.lit (.bool true))]),gs (pEOf c b_c) [.row (syms 16 8)] (.tup [sy [37,38],.c (.lit (.bool true))]),gs (pEOf d b_d) [.row (syms 24 8)] (.tup [sy [39,40],.c (.lit (.bool true))]),gs (t1) [.row (flA [syms 33 8,[.sym 32]])] (.r (sy [41,42])),gs (t2 false (fI h0)) [sy [41,42]] (.r (.c (.lit (.bool false)))),gs (t3) [.c (.lit (.int .i64 1)),.c (.lit (.int .i64 0))] (.r (sy [43,44])),gs (t4 false (fI h1)) [sy [37,38],sy [43,44]] (.r (.c (.lit (.bool false)))),gs (pNZero c true (tI h2)) [sy [37,38]] (.r (.c (.lit (.bool true)))),gs (t5 false (fI h3)) [sy [39,40],sy [43,44]] (.r (.c (.lit (.bool false))))]
     [] [] Tryz.func127 eo127 2000 [.row (syms 0 33)] (.tup [.row (flA [syms 33 8,[.sym 32]]),.c (.lit (.bool false))]))))
   (fun h2=>.ie (fun h=>h2 h.1) (ev_sp (L:=[(rawQ a).cells,(rawQ b).cells,(rawQ c).cells,(rawQ d).cells,[gx (.bool t)],cn a,cn b,cn c,cn d,cn ((a*d) - (b*c)),cn (⟨1,0⟩:QC)].flatten) tys_ok mixed
     [gs (pEOf a b_a) [.row (syms 0 8)] (.tup [sy [33,34],.c (.lit (.bool true))]),gs (pEOf b b_b) [.row (syms 8 8)] (.tup [sy [35,36],.c (.lit (.bool true))]),gs (pEOf c b_c) [.row (syms 16 8)] (.tup [sy [37,38],.c (.lit (.bool true))]),gs (pEOf d b_d) [.row (syms 24 8)] (.tup [sy [39,40],.c (.lit (.bool true))]),gs (t1) [.row (flA [syms 33 8,[.sym 32]])] (.r (sy [41,42])),gs (t2 false (fI h0)) [sy [41,42]] (.r (.c (.lit (.bool false)))),gs (t3) [.c (.lit (.int .i64 1)),.c (.lit (.int .i64 0))] (.r (sy [43,44])),gs (t4 false (fI h1)) [sy [37,38],sy [43,44]] (.r (.c (.lit (.bool false)))),gs (pNZero c false (fI h2)) [sy [37,38]] (.r (.c (.lit (.bool false))))]
     [] [] Tryz.func127 eo127 2000 [.row (syms 0 33)] (.tup [.row (flA [syms 33 8,[.sym 32]]),.c (.lit (.bool false))])))))))
theorem mCheck(a b c d:QC)(t:Bool)(b_a:ShortZ a)(b_b:ShortZ b)(b_c:ShortZ c)(b_d:ShortZ d) :SpecC Tryz.prog true 64 [.row ((rawQ a).cells++(rawQ b).cells++(rawQ c).cells++(rawQ d).cells++[gx (.bool t)])] (if((a*d) - (b*c))=(⟨0,0⟩:QC) then .r (.c (gl (.int .i64 2))) else if c=(⟨1,0⟩:QC)∨(c=(⟨0,0⟩:QC)∧d=(⟨1,0⟩:QC)) then .r (.c (gl (.int .i64 0))) else .r (.c (gl (.int .i64 2)))) :=
  have t1:=eOpen a b c d t b_a b_b b_c b_d
  (Classical.em (((a * d) - (b * c)) = (⟨0,0⟩ : QC))).elim (fun h0 => .it h0 (ev_sp (L := [(rawQ a).cells,(rawQ b).cells,(rawQ c).cells,(rawQ d).cells,[gx (.bool t)]].flatten) tys_ok mixed
     [gs (t1.t h0) [.row (syms 0 33)] (.tup [.row [.lit .nilp,.lit .nilp,.lit .nilp,.lit .nilp,.lit .nilp,.lit .nilp,.lit .nilp,.lit .nilp,.lit (.bool false)],.c (.lit (.bool false))])]
     [] [] Tryz.func64 eo64 2000 [.row (syms 0 33)] (.r (.c (.lit (.int .i64 2))))))
   (fun h0=>.ie h0 ((Classical.em (c=(⟨1,0⟩:QC))).elim (fun h1=>.it (Or.inl h1) (ev_sp (L:=[(rawQ a).cells,(rawQ b).cells,(rawQ c).cells,(rawQ d).cells,[gx (.bool t)],cn a,cn b,cn c,cn d,[gx (.bool t)]].flatten) tys_ok mixed
     [gs ((t1.f h0).t h1) [.row (syms 0 33)] (.tup [.row (syms 33 9),.c (.lit (.bool true))])]
     [] [] Tryz.func64 eo64 2000 [.row (syms 0 33)] (.r (.c (.lit (.int .i64 0))))))
   (fun h1=>(Classical.em (c=(⟨0,0⟩:QC)∧d=(⟨1,0⟩:QC))).elim (fun h2=>.it (Or.inr h2) (ev_sp (L:=[(rawQ a).cells,(rawQ b).cells,(rawQ c).cells,(rawQ d).cells,[gx (.bool t)],cn a,cn b,cn c,cn d,[gx (.bool t)]].flatten) tys_ok mixed
     [gs (((t1.f h0).f h1).t h2) [.row (syms 0 33)] (.tup [.row (syms 33 9),.c (.lit (.bool true))])]
     [] [] Tryz.func64 eo64 2000 [.row (syms 0 33)] (.r (.c (.lit (.int .i64 0))))))
   (fun h2=>.ie (fun h=>Or.elim h h1 h2) (ev_sp (L:=[(rawQ a).cells,(rawQ b).cells,(rawQ c).cells,(rawQ d).cells,[gx (.bool t)],cn a,cn b,cn c,cn d,[gx (.bool t)]].flatten) tys_ok mixed
     [gs (((t1.f h0).f h1).f h2) [.row (syms 0 33)] (.tup [.row (syms 33 9),.c (.lit (.bool false))])]
     [] [] Tryz.func64 eo64 2000 [.row (syms 0 33)] (.r (.c (.lit (.int .i64 2)))))))))
theorem eOpenB(g1 g2 g3 g4:RawG)(t:Bool)(b_g1:RawG.Sz g1)(b_g2:RawG.Sz g2)(b_g3:RawG.Sz g3)(b_g4:RawG.Sz g4)(hbad:¬(GOk g1.val∧GOk g2.val∧GOk g3.val∧GOk g4.val)):SpecC Tryz.prog true 127 [.row (g1.cells++g2.cells++g3.cells++g4.cells++[gx (.bool t)])] (.tup [.row ([gl .nilp,gl .nilp,gl .nilp,gl .nilp,gl .nilp,gl .nilp,gl .nilp,gl .nilp,gl (.bool false)]),.c (gl (.bool false))]) :=
  (Classical.em (GOk g1.val)).elim (fun h0=>(Classical.em (GOk g2.val)).elim (fun h1=>(Classical.em (GOk g3.val)).elim (fun h2=>(Classical.em (GOk g4.val)).elim (fun h3=>(hbad ⟨h0,h1,h2,h3⟩).elim)
   (fun h3=>ev_sp (L:=[g1.cells,g2.cells,g3.cells,g4.cells,[gx (.bool t)],[ga,ga],[ga,ga],[ga,ga],[ga,ga]].flatten) tys_ok mixed
     [gs (pEOfR g1 b_g1 true (tI h0)) [.row (syms 0 8)] (.tup [sy [33,34],.c (.lit (.bool true))]),gs (pEOfR g2 b_g2 true (tI h1)) [.row (syms 8 8)] (.tup [sy [35,36],.c (.lit (.bool true))]),gs (pEOfR g3 b_g3 true (tI h2)) [.row (syms 16 8)] (.tup [sy [37,38],.c (.lit (.bool true))]),gs (pEOfR g4 b_g4 false (fI h3)) [.row (syms 24 8)] (.tup [sy [39,40],.c (.lit (.bool false))])]
     [] [] Tryz.func127 eo127 2000 [.row (syms 0 33)] (.tup [.row [.lit .nilp,.lit .nilp,.lit .nilp,.lit .nilp,.lit .nilp,.lit .nilp,.lit .nilp,.lit .nilp,.lit (.bool false)],.c (.lit (.bool false))])))
   (fun h2=>(Classical.em (GOk g4.val)).elim (fun h3=>ev_sp (L:=[g1.cells,g2.cells,g3.cells,g4.cells,[gx (.bool t)],[ga,ga],[ga,ga],[ga,ga],[ga,ga]].flatten) tys_ok mixed
     [gs (pEOfR g1 b_g1 true (tI h0)) [.row (syms 0 8)] (.tup [sy [33,34],.c (.lit (.bool true))]),gs (pEOfR g2 b_g2 true (tI h1)) [.row (syms 8 8)] (.tup [sy [35,36],.c (.lit (.bool true))]),gs (pEOfR g3 b_g3 false (fI h2)) [.row (syms 16 8)] (.tup [sy [37,38],.c (.lit (.bool false))]),gs (pEOfR g4 b_g4 true (tI h3)) [.row (syms 24 8)] (.tup [sy [39,40],.c (.lit (.bool true))])]
     [] [] Tryz.func127 eo127 2000 [.row (syms 0 33)] (.tup [.row [.lit .nilp,.lit .nilp,.lit .nilp,.lit .nilp,.lit .nilp,.lit .nilp,.lit .nilp,.lit .nilp,.lit (.bool false)],.c (.lit (.bool false))]))
   (fun h3=>ev_sp (L:=[g1.cells,g2.cells,g3.cells,g4.cells,[gx (.bool t)],[ga,ga],[ga,ga],[ga,ga],[ga,ga]].flatten) tys_ok mixed
     [gs (pEOfR g1 b_g1 true (tI h0)) [.row (syms 0 8)] (.tup [sy [33,34],.c (.lit (.bool true))]),gs (pEOfR g2 b_g2 true (tI h1)) [.row (syms 8 8)] (.tup [sy [35,36],.c (.lit (.bool true))]),gs (pEOfR g3 b_g3 false (fI h2)) [.row (syms 16 8)] (.tup [sy [37,38],.c (.lit (.bool false))]),gs (pEOfR g4 b_g4 false (fI h3)) [.row (syms 24 8)] (.tup [sy [39,40],.c (.lit (.bool false))])]
     [] [] Tryz.func127 eo127 2000 [.row (syms 0 33)] (.tup [.row [.lit .nilp,.lit .nilp,.lit .nilp,.lit .nilp,.lit .nilp,.lit .nilp,.lit .nilp,.lit .nilp,.lit (.bool false)],.c (.lit (.bool false))]))))
   (fun h1=>(Classical.em (GOk g3.val)).elim (fun h2=>(Classical.em (GOk g4.val)).elim (fun h3=>ev_sp (L:=[g1.cells,g2.cells,g3.cells,g4.cells,[gx (.bool t)],[ga,ga],[ga,ga],[ga,ga],[ga,ga]].flatten) tys_ok mixed
     [gs (pEOfR g1 b_g1 true (tI h0)) [.row (syms 0 8)] (.tup [sy [33,34],.c (.lit (.bool true))]),gs (pEOfR g2 b_g2 false (fI h1)) [.row (syms 8 8)] (.tup [sy [35,36],.c (.lit (.bool false))]),gs (pEOfR g3 b_g3 true (tI h2)) [.row (syms 16 8)] (.tup [sy [37,38],.c (.lit (.bool true))]),gs (pEOfR g4 b_g4 true (tI h3)) [.row (syms 24 8)] (.tup [sy [39,40],.c (.lit (.bool true))])]
     [] [] Tryz.func127 eo127 2000 [.row (syms 0 33)] (.tup [.row [.lit .nilp,.lit .nilp,.lit .nilp,.lit .nilp,.lit .nilp,.lit .nilp,.lit .nilp,.lit .nilp,.lit (.bool false)],.c (.lit (.bool false))]))
   (fun h3=>ev_sp (L:=[g1.cells,g2.cells,g3.cells,g4.cells,[gx (.bool t)],[ga,ga],[ga,ga],[ga,ga],[ga,ga]].flatten) tys_ok mixed
     [gs (pEOfR g1 b_g1 true (tI h0)) [.row (syms 0 8)] (.tup [sy [33,34],.c (.lit (.bool true))]),gs (pEOfR g2 b_g2 false (fI h1)) [.row (syms 8 8)] (.tup [sy [35,36],.c (.lit (.bool false))]),gs (pEOfR g3 b_g3 true (tI h2)) [.row (syms 16 8)] (.tup [sy [37,38],.c (.lit (.bool true))]),gs (pEOfR g4 b_g4 false (fI h3)) [.row (syms 24 8)] (.tup [sy [39,40],.c (.lit (.bool false))])]
     [] [] Tryz.func127 eo127 2000 [.row (syms 0 33)] (.tup [.row [.lit .nilp,.lit .nilp,.lit .nilp,.lit .nilp,.lit .nilp,.lit .nilp,.lit .nilp,.lit .nilp,.lit (.bool false)],.c (.lit (.bool false))])))
   (fun h2=>(Classical.em (GOk g4.val)).elim (fun h3=>ev_sp (L:=[g1.cells,g2.cells,g3.cells,g4.cells,[gx (.bool t)],[ga,ga],[ga,ga],[ga,ga],[ga,ga]].flatten) tys_ok mixed
     [gs (pEOfR g1 b_g1 true (tI h0)) [.row (syms 0 8)] (.tup [sy [33,34],.c (.lit (.bool true))]),gs (pEOfR g2 b_g2 false (fI h1)) [.row (syms 8 8)] (.tup [sy [35,36],.c (.lit (.bool false))]),gs (pEOfR g3 b_g3 false (fI h2)) [.row (syms 16 8)] (.tup [sy [37,38],.c (.lit (.bool false))]),gs (pEOfR g4 b_g4 true (tI h3)) [.row (syms 24 8)] (.tup [sy [39,40],.c (.lit (.bool true))])]
     [] [] Tryz.func127 eo127 2000 [.row (syms 0 33)] (.tup [.row [.lit .nilp,.lit .nilp,.lit .nilp,.lit .nilp,.lit .nilp,.lit .nilp,.lit .nilp,.lit .nilp,.lit (.bool false)],.c (.lit (.bool false))]))
   (fun h3=>ev_sp (L:=[g1.cells,g2.cells,g3.cells,g4.cells,[gx (.bool t)],[ga,ga],[ga,ga],[ga,ga],[ga,ga]].flatten) tys_ok mixed
     [gs (pEOfR g1 b_g1 true (tI h0)) [.row (syms 0 8)] (.tup [sy [33,34],.c (.lit (.bool true))]),gs (pEOfR g2 b_g2 false (fI h1)) [.row (syms 8 8)] (.tup [sy [35,36],.c (.lit (.bool false))]),gs (pEOfR g3 b_g3 false (fI h2)) [.row (syms 16 8)] (.tup [sy [37,38],.c (.lit (.bool false))]),gs (pEOfR g4 b_g4 false (fI h3)) [.row (syms 24 8)] (.tup [sy [39,40],.c (.lit (.bool false))])]
     [] [] Tryz.func127 eo127 2000 [.row (syms 0 33)] (.tup [.row [.lit .nilp,.lit .nilp,.lit .nilp,.lit .nilp,.lit .nilp,.lit .nilp,.lit .nilp,.lit .nilp,.lit (.bool false)],.c (.lit (.bool false))])))))
   (fun h0=>(Classical.em (GOk g2.val)).elim (fun h1=>(Classical.em (GOk g3.val)).elim (fun h2=>(Classical.em (GOk g4.val)).elim (fun h3=>ev_sp (L:=[g1.cells,g2.cells,g3.cells,g4.cells,[gx (.bool t)],[ga,ga],[ga,ga],[ga,ga],[ga,ga]].flatten) tys_ok mixed
     [gs (pEOfR g1 b_g1 false (fI h0)) [.row (syms 0 8)] (.tup [sy [33,34],.c (.lit (.bool false))]),gs (pEOfR g2 b_g2 true (tI h1)) [.row (syms 8 8)] (.tup [sy [35,36],.c (.lit (.bool true))]),gs (pEOfR g3 b_g3 true (tI h2)) [.row (syms 16 8)] (.tup [sy [37,38],.c (.lit (.bool true))]),gs (pEOfR g4 b_g4 true (tI h3)) [.row (syms 24 8)] (.tup [sy [39,40],.c (.lit (.bool true))])]
     [] [] Tryz.func127 eo127 2000 [.row (syms 0 33)] (.tup [.row [.lit .nilp,.lit .nilp,.lit .nilp,.lit .nilp,.lit .nilp,.lit .nilp,.lit .nilp,.lit .nilp,.lit (.bool false)],.c (.lit (.bool false))]))
   (fun h3=>ev_sp (L:=[g1.cells,g2.cells,g3.cells,g4.cells,[gx (.bool t)],[ga,ga],[ga,ga],[ga,ga],[ga,ga]].flatten) tys_ok mixed
     [gs (pEOfR g1 b_g1 false (fI h0)) [.row (syms 0 8)] (.tup [sy [33,34],.c (.lit (.bool false))]),gs (pEOfR g2 b_g2 true (tI h1)) [.row (syms 8 8)] (.tup [sy [35,36],.c (.lit (.bool true))]),gs (pEOfR g3 b_g3 true (tI h2)) [.row (syms 16 8)] (.tup [sy [37,38],.c (.lit (.bool true))]),gs (pEOfR g4 b_g4 false (fI h3)) [.row (syms 24 8)] (.tup [sy [39,40],.c (.lit (.bool false))])]
     [] [] Tryz.func127 eo127 2000 [.row (syms 0 33)] (.tup [.row [.lit .nilp,.lit .nilp,.lit .nilp,.lit .nilp,.lit .nilp,.lit .nilp,.lit .nilp,.lit .nilp,.lit (.bool false)],.c (.lit (.bool false))])))
   (fun h2=>(Classical.em (GOk g4.val)).elim (fun h3=>ev_sp (L:=[g1.cells,g2.cells,g3.cells,g4.cells,[gx (.bool t)],[ga,ga],[ga,ga],[ga,ga],[ga,ga]].flatten) tys_ok mixed
     [gs (pEOfR g1 b_g1 false (fI h0)) [.row (syms 0 8)] (.tup [sy [33,34],.c (.lit (.bool false))]),gs (pEOfR g2 b_g2 true (tI h1)) [.row (syms 8 8)] (.tup [sy [35,36],.c (.lit (.bool true))]),gs (pEOfR g3 b_g3 false (fI h2)) [.row (syms 16 8)] (.tup [sy [37,38],.c (.lit (.bool false))]),gs (pEOfR g4 b_g4 true (tI h3)) [.row (syms 24 8)] (.tup [sy [39,40],.c (.lit (.bool true))])]
     [] [] Tryz.func127 eo127 2000 [.row (syms 0 33)] (.tup [.row [.lit .nilp,.lit .nilp,.lit .nilp,.lit .nilp,.lit .nilp,.lit .nilp,.lit .nilp,.lit .nilp,.lit (.bool false)],.c (.lit (.bool false))]))
   (fun h3=>ev_sp (L:=[g1.cells,g2.cells,g3.cells,g4.cells,[gx (.bool t)],[ga,ga],[ga,ga],[ga,ga],[ga,ga]].flatten) tys_ok mixed
     [gs (pEOfR g1 b_g1 false (fI h0)) [.row (syms 0 8)] (.tup [sy [33,34],.c (.lit (.bool false))]),gs (pEOfR g2 b_g2 true (tI h1)) [.row (syms 8 8)] (.tup [sy [35,36],.c (.lit (.bool true))]),gs (pEOfR g3 b_g3 false (fI h2)) [.row (syms 16 8)] (.tup [sy [37,38],.c (.lit (.bool false))]),gs (pEOfR g4 b_g4 false (fI h3)) [.row (syms 24 8)] (.tup [sy [39,40],.c (.lit (.bool false))])]
     [] [] Tryz.func127 eo127 2000 [.row (syms 0 33)] (.tup [.row [.lit .nilp,.lit .nilp,.lit .nilp,.lit .nilp,.lit .nilp,.lit .nilp,.lit .nilp,.lit .nilp,.lit (.bool false)],.c (.lit (.bool false))]))))
   (fun h1=>(Classical.em (GOk g3.val)).elim (fun h2=>(Classical.em (GOk g4.val)).elim (fun h3=>ev_sp (L:=[g1.cells,g2.cells,g3.cells,g4.cells,[gx (.bool t)],[ga,ga],[ga,ga],[ga,ga],[ga,ga]].flatten) tys_ok mixed
     [gs (pEOfR g1 b_g1 false (fI h0)) [.row (syms 0 8)] (.tup [sy [33,34],.c (.lit (.bool false))]),gs (pEOfR g2 b_g2 false (fI h1)) [.row (syms 8 8)] (.tup [sy [35,36],.c (.lit (.bool false))]),gs (pEOfR g3 b_g3 true (tI h2)) [.row (syms 16 8)] (.tup [sy [37,38],.c (.lit (.bool true))]),gs (pEOfR g4 b_g4 true (tI h3)) [.row (syms 24 8)] (.tup [sy [39,40],.c (.lit (.bool true))])]
     [] [] Tryz.func127 eo127 2000 [.row (syms 0 33)] (.tup [.row [.lit .nilp,.lit .nilp,.lit .nilp,.lit .nilp,.lit .nilp,.lit .nilp,.lit .nilp,.lit .nilp,.lit (.bool false)],.c (.lit (.bool false))]))
   (fun h3=>ev_sp (L:=[g1.cells,g2.cells,g3.cells,g4.cells,[gx (.bool t)],[ga,ga],[ga,ga],[ga,ga],[ga,ga]].flatten) tys_ok mixed
     [gs (pEOfR g1 b_g1 false (fI h0)) [.row (syms 0 8)] (.tup [sy [33,34],.c (.lit (.bool false))]),gs (pEOfR g2 b_g2 false (fI h1)) [.row (syms 8 8)] (.tup [sy [35,36],.c (.lit (.bool false))]),gs (pEOfR g3 b_g3 true (tI h2)) [.row (syms 16 8)] (.tup [sy [37,38],.c (.lit (.bool true))]),gs (pEOfR g4 b_g4 false (fI h3)) [.row (syms 24 8)] (.tup [sy [39,40],.c (.lit (.bool false))])]
     [] [] Tryz.func127 eo127 2000 [.row (syms 0 33)] (.tup [.row [.lit .nilp,.lit .nilp,.lit .nilp,.lit .nilp,.lit .nilp,.lit .nilp,.lit .nilp,.lit .nilp,.lit (.bool false)],.c (.lit (.bool false))])))
   (fun h2=>(Classical.em (GOk g4.val)).elim (fun h3=>ev_sp (L:=[g1.cells,g2.cells,g3.cells,g4.cells,[gx (.bool t)],[ga,ga],[ga,ga],[ga,ga],[ga,ga]].flatten) tys_ok mixed
     [gs (pEOfR g1 b_g1 false (fI h0)) [.row (syms 0 8)] (.tup [sy [33,34],.c (.lit (.bool false))]),gs (pEOfR g2 b_g2 false (fI h1)) [.row (syms 8 8)] (.tup [sy [35,36],.c (.lit (.bool false))]),gs (pEOfR g3 b_g3 false (fI h2)) [.row (syms 16 8)] (.tup [sy [37,38],.c (.lit (.bool false))]),gs (pEOfR g4 b_g4 true (tI h3)) [.row (syms 24 8)] (.tup [sy [39,40],.c (.lit (.bool true))])]
     [] [] Tryz.func127 eo127 2000 [.row (syms 0 33)] (.tup [.row [.lit .nilp,.lit .nilp,.lit .nilp,.lit .nilp,.lit .nilp,.lit .nilp,.lit .nilp,.lit .nilp,.lit (.bool false)],.c (.lit (.bool false))]))
   (fun h3=>ev_sp (L:=[g1.cells,g2.cells,g3.cells,g4.cells,[gx (.bool t)],[ga,ga],[ga,ga],[ga,ga],[ga,ga]].flatten) tys_ok mixed
     [gs (pEOfR g1 b_g1 false (fI h0)) [.row (syms 0 8)] (.tup [sy [33,34],.c (.lit (.bool false))]),gs (pEOfR g2 b_g2 false (fI h1)) [.row (syms 8 8)] (.tup [sy [35,36],.c (.lit (.bool false))]),gs (pEOfR g3 b_g3 false (fI h2)) [.row (syms 16 8)] (.tup [sy [37,38],.c (.lit (.bool false))]),gs (pEOfR g4 b_g4 false (fI h3)) [.row (syms 24 8)] (.tup [sy [39,40],.c (.lit (.bool false))])]
     [] [] Tryz.func127 eo127 2000 [.row (syms 0 33)] (.tup [.row [.lit .nilp,.lit .nilp,.lit .nilp,.lit .nilp,.lit .nilp,.lit .nilp,.lit .nilp,.lit .nilp,.lit (.bool false)],.c (.lit (.bool false))])))))
theorem mCheckB(g1 g2 g3 g4:RawG)(t:Bool)(b_g1:RawG.Sz g1)(b_g2:RawG.Sz g2)(b_g3:RawG.Sz g3)(b_g4:RawG.Sz g4)(hbad:¬(GOk g1.val∧GOk g2.val∧GOk g3.val∧GOk g4.val)):SpecC Tryz.prog true 64 [.row (g1.cells++g2.cells++g3.cells++g4.cells++[gx (.bool t)])] (.r (.c (gl (.int .i64 2)))) :=
  ev_sp (L := [g1.cells,g2.cells,g3.cells,g4.cells,[gx (.bool t)]].flatten) tys_ok mixed
     [gs (eOpenB g1 g2 g3 g4 t b_g1 b_g2 b_g3 b_g4 hbad) [.row (syms 0 33)] (.tup [.row [.lit .nilp,.lit .nilp,.lit .nilp,.lit .nilp,.lit .nilp,.lit .nilp,.lit .nilp,.lit .nilp,.lit (.bool false)],.c (.lit (.bool false))])]
     [] [] Tryz.func64 eo64 2000 [.row (syms 0 33)] (.r (.c (.lit (.int .i64 2))))
def MOk(m:RawM):Prop:=∃ a b c d:QC,(m.a=rawQ a∧m.b=rawQ b∧m.c=rawQ c∧m.d=rawQ d)∧(ShortZ a∧ShortZ b∧ShortZ c∧ShortZ d)∧(c=(⟨1,0⟩:QC)∨(c=(⟨0,0⟩:QC)∧d=(⟨1,0⟩:QC)))∧¬(((a*d) - (b*c))=(⟨0,0⟩:QC))
theorem mChkN(g1 g2 g3 g4:RawG)(t:Bool)(b1:g1.Sz)(b2:g2.Sz)(b3:g3.Sz)(b4:g4.Sz)(h:¬MOk ⟨g1,g2,g3,g4,t⟩):SpecC Tryz.prog true 64 [.row (g1.cells++g2.cells++g3.cells++g4.cells++[gx (.bool t)])] (.r (.c (gl (.int .i64 2)))):=by
 by_cases hg:GOk g1.val∧GOk g2.val∧GOk g3.val∧GOk g4.val
 ·obtain⟨k1,k2,k3,k4⟩:=hg
  obtain⟨a,rfl,ha⟩:=gOk_raw k1
  obtain⟨b,rfl,hb⟩:=gOk_raw k2
  obtain⟨c,rfl,hc⟩:=gOk_raw k3
  obtain⟨d,rfl,hd⟩:=gOk_raw k4
  have k:=mCheck a b c d t ha hb hc hd
  by_cases h1:((a*d) - (b*c))=(⟨0,0⟩:QC)
  ·exact k.t h1
  ·exact(k.f h1).f (fun h2=>h ⟨a,b,c,d,⟨rfl,rfl,rfl,rfl⟩,⟨ha,hb,hc,hd⟩,h2,h1⟩)
 ·exact mCheckB g1 g2 g3 g4 t b1 b2 b3 b4 hg
end Go.Proofs.YthklnbaddobieaaGreat
set_option linter.unusedSimpArgs false
namespace Go.Proofs.YthklnbaddobieaaGreat
open Go.RowKit Tr
open Classical
def e1(a:QC)(b:QC)(c:QC)(d:QC):QC:=((a+d)*(a+d)) / ((a*d) - (b*c))
end Go.Proofs.YthklnbaddobieaaGreat
set_option linter.unusedSimpArgs false
namespace Go.Proofs.YthklnbaddobieaaGreat
open Go.RowKit Tr
open Classical
def tA(a b c d:QC):QC:=(a*(cj a))+(b*(cj c))
def tB(a b c d:QC):QC:=(a*(cj b))+(b*(cj d))
def tC(a b c d:QC):QC:=(c*(cj a))+(d*(cj c))
def tD(a b c d:QC):QC:=(c*(cj b))+(d*(cj d))
def e2(a:QC)(b:QC)(c:QC)(d:QC):QC:=e1 (tA a b c d) (tB a b c d) (tC a b c d) (tD a b c d)
end Go.Proofs.YthklnbaddobieaaGreat
set_option linter.unusedSimpArgs false
namespace Go.Proofs.YthklnbaddobieaaGreat
open Go.RowKit Tr
open Classical
def e3(a:QC)(b:QC)(d:QC):QC:=((a - d)*(a - d))+(b*(⟨4,0⟩:QC))
noncomputable def e4(a:QC)(b:QC)(d:QC):QC:=((a - d)+(rt (e3 a b d))) / (⟨2,0⟩:QC)
noncomputable def e5(a:QC)(b:QC)(d:QC):QC:=((a - d) - (rt (e3 a b d))) / (⟨2,0⟩:QC)
noncomputable def e6(a:QC)(b:QC)(d:QC):QC:=(a - (e5 a b d)) / (a - (e4 a b d))
end Go.Proofs.YthklnbaddobieaaGreat
set_option linter.unusedSimpArgs false
namespace Go.Proofs.YthklnbaddobieaaGreat
open Go.RowKit Tr
open Classical
noncomputable def e7(z:QC):Rat:=((sqr (nm z))+z.re)*(1 / 2:Rat)
noncomputable def e8(z:QC):Rat:=(z.im*(1 / 2:Rat)) / (sqr (e7 z))
end Go.Proofs.YthklnbaddobieaaGreat
