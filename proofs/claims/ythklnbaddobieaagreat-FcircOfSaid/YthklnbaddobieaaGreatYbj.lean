/- Laws for the walk. -/
import Derived.Test.YthklnbaddobieaaGreatYbi
set_option linter.unusedVariables false
set_option maxHeartbeats 4000000
set_option linter.unusedSimpArgs false
namespace Tr
open Ieee
def w3:Nat:=4599676419421066581
def FinO(r:Option Nat):Prop:=∀ y,r=some y→∃ s b,b≤GW∧y=pz s b
def ecd(r:Option Nat):Int:=match r with|some _=>0|none=>6
end Tr
namespace Go.Proofs.YthklnbaddobieaaGreat
open Go.RowKit Tr
theorem flt_ex(q:Rat):∃ r,FltA q r∧FinO r:=by
 obtain⟨x,B,h,_⟩:=f64_ex q
 refine⟨_,⟨B,h,rfl⟩,fun y hy=>?_⟩
 split at hy
 ·rename_i hg; cases hy; exact⟨_,B,hg,rfl⟩
 ·cases hy
theorem upG(r:Option Nat):upV r=.tup [.c (gx (.float .f64 (r.getD 0))),.c (gx (.int .i64 (ecd r)))]:=by cases r<;>rfl
theorem docG(r:Option Nat):docV r=.tuple #[.float .f64 (r.getD 0),.bool r.isSome]:=by cases r<;>rfl
end Go.Proofs.YthklnbaddobieaaGreat
set_option linter.unusedSimpArgs false
namespace Tr
def bothS(r1 r2:Option Nat):Bool:=r1.isSome && r2.isSome
def cA(r1 r2:Option Nat):Nat:=if bothS r1 r2 then r1.getD 0 else 0
def cB(r1 r2:Option Nat):Nat:=if bothS r1 r2 then r2.getD 0 else 0
def cE(r1 r2:Option Nat):Int:=if bothS r1 r2 then 0 else 6
def FinW(y:Nat):Prop:=∃ s b,b≤GW∧y=pz s b
theorem finW_zero:FinW 0:=⟨false,0,by decide,rfl⟩
theorem finW_getD{r:Option Nat}(h:FinO r):FinW (r.getD 0):=by
 cases r with
 | none=>exact finW_zero
 | some y=>exact h y rfl
theorem finW_if{r:Option Nat}(h:FinO r)(c:Bool):FinW (if c then r.getD 0 else 0):=by cases c; exact finW_zero; exact finW_getD h
theorem pz_nan{s:Bool}{b:Nat}(hb:b≤GW):(Ieee.double.order (pz s b) (pz s b) != some .eq)=false:=by
 have key:∀(s:Bool) (b:Nat),b≤GW→(Ieee.double.order (sgw s b) (sgw s b) != some .eq)=false:=fun s b hb=>by
  rw[ord_nan (by unfold GW at hb; omega)]; exact decide_eq_false (by omega)
 unfold pz
 by_cases h:b=0
 ·rw[if_pos h]; exact key false 0 (by decide)
 ·rw[if_neg h]; exact key s b hb
end Tr
namespace Go.Proofs.YthklnbaddobieaaGreat
open Go.RowKit Tr
theorem gpure{f:FuncId}{q:Rat}{r:Option Nat}(h:SpecC Tryz.prog true f [F1 q] (upV r)):PureC Tryz.prog f [encF q] (.tuple #[.float .f64 (r.getD 0),.int .i64 (ecd r)]):=by
 rw[upG] at h
 exact h.pure (by kernel_rfl) (by kernel_rfl)
theorem nCplx(z:QC)(h:ShortZ z){r1 r2:Option Nat}(h1:FltA z.re r1)(h2:FltA z.im r2) :
  SpecC Tryz.prog true 65 [.row (rG z)] (.tup [.c (gx (.complex .f64 (cA r1 r2) (cB r1 r2))),.c (gx (.int .i64 (cE r1 r2)))]) :=
 spec1 eo65 fun w A u hR _ hu=>by
  rw[(FR.val_ok (u:=.agg #[.bool (decide (z.re.num<0)),.string (strN z.re.num.natAbs),.bool false,.string (strN z.re.den),.bool (decide (z.im.num<0)),.string (strN z.im.num.natAbs),.bool false,.string (strN z.im.den)]) (x:=.row (rG z)) (by kernel_rfl)).1 hu]
  have hM:=(pGMay (rawQ z) (sz_short h) true ⟨fun _=>rawQ_ok h,fun _=>rfl⟩).pure (vs:=[.agg #[.bool (decide (z.re.num<0)),.string (strN z.re.num.natAbs),.bool false,.string (strN z.re.den),.bool (decide (z.im.num<0)),.string (strN z.im.num.natAbs),.bool false,.string (strN z.im.den)]]) (v:=.bool true) (by kernel_rfl) (by kernel_rfl)
  have f0:=gpure (nFloat_any z.re h.1 h1)
  have f1:=gpure (nFloat_any z.im h.2 h2)
  refine(complex_walk (decide (z.re.num<0)) false (decide (z.im.num<0)) false (strN z.re.num.natAbs) (strN z.re.den) (strN z.im.num.natAbs) (strN z.im.den)
   (fun j=>match j with|0=>#[.bool (decide (z.re.num<0)),.string (strN z.re.num.natAbs),.bool false,.string (strN z.re.den)]|_=>#[.bool (decide (z.im.num<0)),.string (strN z.im.num.natAbs),.bool false,.string (strN z.im.den)]) rfl rfl
   (fun j=>by cases j<;>rfl) (fun j=>by cases j<;>(rw[List.all_toArray]; rfl)) (fun j=>match j with|0=>r1.getD 0|_=>r2.getD 0) (fun j=>match j with|0=>ecd r1|_=>ecd r2)
   hM (fun j=>by cases j; exact f0; exact f1) (.tuple #[.complex .f64 (cA r1 r2) (cB r1 r2),.int .i64 (cE r1 r2)]) ?_ ?_ w).mono ?_
  ·rintro⟨a,b⟩
   cases r1 with
   | none=>cases a
   | some x=>cases r2 with
    | none=>cases b
    | some y=>rfl
  ·intro k
   cases r1 with
   | none=>rfl
   | some x=>cases r2 with
    | none=>rfl
    | some y=>exact absurd ⟨rfl,rfl⟩ k
  ·rintro e w' ⟨rfl,hb⟩
   exact⟨_,rfl,⟨[_,_],rfl,rfl,rfl,trivial⟩,hb⟩
theorem dNaN(y:Nat)(h:FinW y):PureC Tryz.prog 142 [.float .f64 y] (.bool false):=by
 obtain⟨s,b,hb,rfl⟩:=h
 exact ev_pure (hp:=false) (L:=[gx (.float .f64 (pz s b))]) tys_ok mixed [] [gb .neq 28 (.c (.sym 0)) (.c (.sym 0)) (.lit (.bool false)) (fl_neq _ _ _ false (pz_nan (s:=s) (b:=b) hb)) (by kernel_rfl) (by kernel_rfl) (by kernel_rfl)] []
  Tryz.func142 100 [.c (.sym 0)] (.r (.c (.lit (.bool false)))) (by kernel_rfl) (by kernel_rfl) (by kernel_rfl)
theorem dLike(y:Nat)(h:FinW y):PureC Tryz.prog 76 [.float .f64 y,.float .f64 y] (.bool true) :=
 ev_pure (hp:=false) (L:=[gx (.float .f64 y),gx (.int .u64 (y:Nat))]) tys_ok mixed [gp 142 [.c (.sym 0)] (.r (.c (.lit (.bool false)))) eo142 (dNaN y h) (by kernel_rfl) (by kernel_rfl)]
  [gbInt .eql 41 .u64 (.sym 1) (.sym 1) (y:Nat) (y:Nat) true (congrArg some (decide_eq_true (p:=((y:Nat):Int)=(y:Nat)) rfl)) (by kernel_rfl) (by kernel_rfl)]
  [goExt 20 [.c (.sym 0)] (.c (.sym 1)) (fun w=>bits_of y w) (by kernel_rfl) (by kernel_rfl)]
  Tryz.func76 100 [.c (.sym 0),.c (.sym 0)] (.r (.c (.lit (.bool true)))) (by kernel_rfl) (by kernel_rfl) (by kernel_rfl)
theorem dSame(x y:Nat)(hx:FinW x)(hy:FinW y):PureC Tryz.prog 68 [.agg #[.float .f64 x,.float .f64 y],.agg #[.float .f64 x,.float .f64 y]] (.bool true) :=
  ev_pure (hp:=false) (L:=[gx (.float .f64 x),gx (.float .f64 y)]) tys_ok mixed
    [gp 76 [.c (.sym 0),.c (.sym 0)] (.r (.c (.lit (.bool true)))) eo76 (dLike x hx) (by kernel_rfl) (by kernel_rfl),gp 76 [.c (.sym 1),.c (.sym 1)] (.r (.c (.lit (.bool true)))) eo76 (dLike y hy) (by kernel_rfl) (by kernel_rfl)] [] []
    Tryz.func68 100 [.row [.sym 0,.sym 1],.row [.sym 0,.sym 1]] (.r (.c (.lit (.bool true)))) (by kernel_rfl) (by kernel_rfl) (by kernel_rfl)
theorem dCplx (z : QC) (h : ShortZ z) {r1 r2 : Option Nat} (h1 : FltA z.re r1) (h2 : FltA z.im r2) :
    SpecC Tryz.prog false 67 [.row (rG z)] (.tup [.row [gx (.float .f64 (cA r1 r2)),gx (.float .f64 (cB r1 r2))],.c (gx (.bool (bothS r1 r2)))]):=by
  have d1:=dFloat z.re h.1 h1
  have d2:=dFloat z.im h.2 h2
  rw[docG] at d1 d2
  cases r1 with
  | none =>
    exact ev_sp (L:=rG z++[gx (.float .f64 (r2.getD 0)),gx (.bool r2.isSome)]) tys_ok mixed
      [gp 14 [.row [.sym 0,.sym 1,.sym 2,.sym 3]] (.tup [.c (.lit (.flt 0)),.c (.lit (.bool false))]) eo14 d1 (by kernel_rfl) (by kernel_rfl),gp 14 [.row [.sym 4,.sym 5,.sym 6,.sym 7]] (.tup [.c (.sym 8),.c (.sym 9)]) eo14 d2 (by kernel_rfl) (by kernel_rfl)] [] []
      Tryz.func67 eo67 100 [.row [.sym 0,.sym 1,.sym 2,.sym 3,.sym 4,.sym 5,.sym 6,.sym 7]] (.tup [.row [.lit (.flt 0),.lit (.flt 0)],.c (.lit (.bool false))])
  | some x =>
    cases r2 with
    | none =>
      exact ev_sp (L:=rG z++[gx (.float .f64 x)]) tys_ok mixed
        [gp 14 [.row [.sym 0,.sym 1,.sym 2,.sym 3]] (.tup [.c (.sym 8),.c (.lit (.bool true))]) eo14 d1 (by kernel_rfl) (by kernel_rfl),gp 14 [.row [.sym 4,.sym 5,.sym 6,.sym 7]] (.tup [.c (.lit (.flt 0)),.c (.lit (.bool false))]) eo14 d2 (by kernel_rfl) (by kernel_rfl)] [] []
        Tryz.func67 eo67 100 [.row [.sym 0,.sym 1,.sym 2,.sym 3,.sym 4,.sym 5,.sym 6,.sym 7]] (.tup [.row [.lit (.flt 0),.lit (.flt 0)],.c (.lit (.bool false))])
    | some y =>
      exact ev_sp (L:=rG z++[gx (.float .f64 x),gx (.float .f64 y)]) tys_ok mixed
        [gp 14 [.row [.sym 0,.sym 1,.sym 2,.sym 3]] (.tup [.c (.sym 8),.c (.lit (.bool true))]) eo14 d1 (by kernel_rfl) (by kernel_rfl),gp 14 [.row [.sym 4,.sym 5,.sym 6,.sym 7]] (.tup [.c (.sym 9),.c (.lit (.bool true))]) eo14 d2 (by kernel_rfl) (by kernel_rfl)] [] []
        Tryz.func67 eo67 100 [.row [.sym 0,.sym 1,.sym 2,.sym 3,.sym 4,.sym 5,.sym 6,.sym 7]] (.tup [.row [.sym 8,.sym 9],.c (.lit (.bool true))])
end Go.Proofs.YthklnbaddobieaaGreat
namespace Go.Proofs.YthklnbaddobieaaGreat
open Go.RowKit Tr
end Go.Proofs.YthklnbaddobieaaGreat
namespace Go.Proofs.YthklnbaddobieaaGreat
open Go.RowKit Tr
def gws(l:List Nat):GF where
 R:=fun v w A=>WSlA A w v l
 int:=false
 keeps:=fun v w w' A A' hs hk h=>WSlA.keep hs hk h
 cell:=fun v w A h=>by obtain⟨p,cap,rfl,_⟩:=h; rfl
 noint:=fun _ v w A h k x=>by obtain⟨p,cap,rfl,_⟩:=h; simp
 ex:=none
 exact:=fun u e=>by cases e
def rq(q:Rat):List GF:=[gl (.bool (decide (q.num<0))),gws (words q.num.natAbs),gl (.bool false),gws (words q.den)]
theorem noW_rat(b:Bool)(s1 s2:Value){w:World}{l1 l2:List Nat}(h1:WSl w s1 l1)(h2:WSl w s2 l2)(T:TypeId):NoW (.cells #[.bool b,s1,.bool false,s2] T (0,0)):=by
 obtain⟨p,c,rfl,_⟩:=h1
 obtain⟨p2,c2,rfl,_⟩:=h2
 intro cs T' fr e i k x hx
 cases e
 match i,hx with
 | 0,hx=>simp at hx
 | 1,hx=>simp at hx
 | 2,hx=>simp at hx
 | 3,hx=>simp at hx
 | i+4,hx=>simp at hx
theorem WSlA.sub{A B:Nat→Prop}{w:World}{v:Value}{l:List Nat}(h:WSlA A w v l)(hs:∀ n,B n→A n):WSlA B w v l:=WSlA.keep (Nat.le_refl _) (fun b _ hb=>⟨rfl,fun h=>hb (hs b h)⟩) h
theorem PutR.cells{m:Nat}{q:Rat}{w w':World}(h:PutR m q w w'){A:Nat→Prop}(hA:Rcv A w):∃ us:List Value,w'.heap[m]?=some (.cells us.toArray 133 (0,0))∧okg (rq q) us w' A:=by
 obtain⟨h1,s1,s2,h2,h3,h4⟩:=h
 have hA':Rcv A w':=fun b hb=>by
  by_cases e:b=m
  ·subst e; exact⟨_,h2,noW_rat _ _ _ h3 h4 _⟩
  ·obtain⟨zz,k1,k2⟩:=hA b hb
   exact⟨zz,(h1.block b (Array.getElem?_eq_some_iff.1 k1).1 e).trans k1,k2⟩
 exact⟨_,h2,rfl,h3.avoids hA',rfl,h4.avoids hA',trivial⟩
def trimE{L:List GF}{f:FuncId}(ent:Tr.Enters Tryz.prog f):GC Tryz.prog L true :=
 ⟨{ f,args:=[],res:=.junk,frz:=some (1000000,⟨[],0,none⟩) },ent,fun _ _ _ _ _ _ _ _=>trivial⟩
section
variable{L:List GF}
end
end Go.Proofs.YthklnbaddobieaaGreat
namespace Go.Proofs.YthklnbaddobieaaGreat
open Go.RowKit Tr
end Go.Proofs.YthklnbaddobieaaGreat
namespace Go.Proofs.YthklnbaddobieaaGreat
open Go.RowKit Tr
end Go.Proofs.YthklnbaddobieaaGreat
namespace Tr
theorem RL.upby{q:Rat}{n:Nat}(h:RL q n)(j:Nat):RL q (n+j):=h.mono (by omega)
end Tr
namespace Go.Proofs.YthklnbaddobieaaGreat
open Go.RowKit Tr
theorem ZL.upby{z:QC}{n:Nat}(h:ZL z n)(j:Nat):ZL z (n+j):=h.mono (by omega)
theorem pRCmpK(x y:Rat)(v:Int){m l:Nat}(hx:RL x m)(hy:RL y l)(hb:m+l<137438953472)(h:cmpR x y=v):SpecC Tryz.prog true 40 [.c (gr x),.c (gr y)] (.r (.c (gl (.int .i64 v)))):=by
 subst h; exact pRCmp x y hx hy hb
theorem ZL_mk{a b:Rat}{k:Nat}(h:RL a k)(h':RL b k):ZL (⟨a,b⟩:QC) k:=⟨h,h'⟩
section
variable{f:FuncId}{x y:Rat}{r:FV}
theorem argOR(h:SpecC Tryz.prog true f [.c (gro x),.c (gro y)] r):SpecC Tryz.prog true f [.c (gro x),.c (gr y)] r :=
 ⟨h.ent,fun w A vs hR hA hu=>by
  match vs,hu with
  | [a,b],hu=>exact h.ok w A [a,b] hR hA ⟨hu.1,.inr hu.2.1,trivial⟩⟩
theorem argRR(h:SpecC Tryz.prog true f [.c (gro x),.c (gro y)] r):SpecC Tryz.prog true f [.c (gr x),.c (gr y)] r :=
 ⟨h.ent,fun w A vs hR hA hu=>by
  match vs,hu with
  | [a,b],hu=>exact h.ok w A [a,b] hR hA ⟨.inr hu.1,.inr hu.2.1,trivial⟩⟩
end
theorem pERat(q:Rat)(h:ShortF q):SpecC Tryz.prog true 192 [.row (rF q)] (.r (.c (gr q))) :=
 spec1 eo192 fun w A u hR hA hu=>by
  rw[(FR.val_ok (u:=encF q) (x:=.row (rF q)) (by kernel_rfl)).1 hu]
  refine(ERat_any _ _ _ _ (Nat.lt_of_le_of_lt h.1 (by decide)) (Nat.lt_of_le_of_lt h.2 (by decide)) w).mono ?_
  rintro e w' ⟨v,h1,h2,h3⟩
  rcases h2 with⟨h2,_⟩|⟨q',e2,_,h2⟩
  ·exact absurd ⟨q,rfl,h.1,h.2⟩ h2
  ·have h6:q=q':=encF_inj' e2
   subst h6
   exact⟨_,h1,(h2.new h3 (Nat.le_refl _)).2 A (hR rfl),h3⟩
theorem pRSignK(q:Rat)(v:Int)(h:q.num.sign=v):SpecC Tryz.prog false 82 [.c (gr q)] (.r (.c (gl (.int .i64 v)))):=by
 subst h; exact pRSign q
theorem rfMinus(x y:Rat)(hx:RL x 134217728)(hy:RL y 134217728):SpecC Tryz.prog false 47 [F1 x,F1 y] (.r (F1 (x - y))):=spec_pure eo47 (fminus x y hx hy) (by kernel_rfl) (by kernel_rfl)
def cirV(a b c d:Rat):Value:=.agg #[.bool (decide (a.num<0)),.string (strN a.num.natAbs),.bool false,.string (strN a.den),.bool (decide (b.num<0)),.string (strN b.num.natAbs),.bool false,.string (strN b.den),
 .bool (decide (c.num<0)),.string (strN c.num.natAbs),.bool false,.string (strN c.den),.bool (decide (d.num<0)),.string (strN d.num.natAbs),.bool false,.string (strN d.den)]
theorem run_eql_rc(w:World)(a b c d:Rat):(binOp .eql 69 (cirV a b c d) (cirV a b c d)).run Tryz.prog w=.ok (.bool true) w:=by
 unfold cirV
 go_simp
def gbNilR{L:List GF}(q:Rat)(x:AC)(hx:AC.lk L x=some (gr q):=by kernel_rfl):GB Tryz.prog L :=
 ⟨{ op:=.eql,t:=83,x:=.c x,y:=.c (.lit .nilp),res:=.lit (.bool false) },fun σ w A vx vy xo yo h1 h2=>by
  obtain⟨b,rfl,_⟩:=(AC.lk_ok (σ:=σ) (x:=x) hx).1 h1
  cases(show vy=.pointer none from h2)
  exact⟨.bool false,by go_simp,rfl⟩⟩
end Go.Proofs.YthklnbaddobieaaGreat
set_option linter.unusedSimpArgs false
namespace Go.Proofs.YthklnbaddobieaaGreat
open Go.RowKit Tr
open Classical
theorem eMul0(x y:Rat)(b_x:RL x 2000000000)(b_y:RL y 2000000000) :SpecC Tryz.prog true 224 [.c (gro x),.c (gro y)] (.r (.c (gr (x*y)))) :=
  ev_sp (L := [[gro x],[gro y],[gr x],[gr y],[gr (x * y)]].flatten) tys_ok mixed
     [gs (pErat x) [.c (.sym 0)] (.r (.c (.sym 2))),gs (pErat y) [.c (.sym 1)] (.r (.c (.sym 3))),
      gvMul x y b_x b_y (by decide) 1 (.c (.sym 2)) (.c (.sym 3)) (.sym 4)]
     [] [] Tryz.func224 eo224 2000 [.c (.sym 0),.c (.sym 1)] (.r (.c (.sym 4)))
theorem eNorm0(x:QC)(b_x:ZL x 2000000000) :SpecC Tryz.prog true 223 [.row (cn x)] (.r (.c (gr ((x.re*x.re)+(x.im*x.im))))) :=
  ev_sp (L := [cn x,[gr (x.re * x.re)],[gr (x.im * x.im)],[gr ((x.re * x.re) + (x.im * x.im))]].flatten) tys_ok mixed
     [gs (eMul0 x.re x.re (b_x.1.mono (by omega)) (b_x.1.mono (by omega))) [.c (.sym 0),.c (.sym 0)] (.r (.c (.sym 2))),gs (eMul0 x.im x.im (b_x.2.mono (by omega)) (b_x.2.mono (by omega))) [.c (.sym 1),.c (.sym 1)] (.r (.c (.sym 3))),
      gvAdd (x.re*x.re) (x.im*x.im) (RL_mul b_x.1 b_x.1) (RL_mul b_x.2 b_x.2) (by decide) 2 (.c (.sym 2)) (.c (.sym 3)) (.sym 4)]
     [] [] Tryz.func223 eo223 2000 [sy [0,1]] (.r (.c (.sym 4)))
theorem eScale0(x:QC)(q:Rat)(b_x:ZL x 2000000000)(b_q:RL q 2000000000) :SpecC Tryz.prog true 227 [.row (cn x),.c (gr q)] (.r (.row (cq (⟨x.re*q,x.im*q⟩:QC)))) :=
  ev_sp (L := [cn x,[gr q],[gr (x.re * q)],[gr (x.im * q)]].flatten) tys_ok mixed
     [gs (argOR (eMul0 x.re q (b_x.1.mono (by omega)) (b_q.mono (by omega)))) [.c (.sym 0),.c (.sym 2)] (.r (.c (.sym 3))),gs (argOR (eMul0 x.im q (b_x.2.mono (by omega)) (b_q.mono (by omega)))) [.c (.sym 1),.c (.sym 2)] (.r (.c (.sym 4)))]
     [] [] Tryz.func227 eo227 2000 [sy [0,1],.c (.sym 2)] (.r (sy [3,4]))
theorem pNScale(x:QC)(q:Rat)(b_x:ZL x 2000000000)(b_q:RL q 2000000000):SpecC Tryz.prog true 227 [N1 x,.c (gr q)] (.r (N1 (⟨x.re*q,x.im*q⟩:QC))):=cn_res (eScale0 x q b_x b_q)
theorem eParts0(x:QC)(b_x:ZL x 2000000000) :SpecC Tryz.prog true 225 [.row (cn x)] (.tup [.c (gr x.re),.c (gr x.im)]) :=
  ev_sp (L := [cn x,[gr x.re],[gr x.im]].flatten) tys_ok mixed
     [gs (pErat x.re) [.c (.sym 0)] (.r (.c (.sym 2))),gs (pErat x.im) [.c (.sym 1)] (.r (.c (.sym 3)))]
     [] [] Tryz.func225 eo225 2000 [sy [0,1]] (.tup [.c (.sym 2),.c (.sym 3)])
theorem eParts0_b0_1(x:QC){k:Nat}(b_x:ZL x k):RL x.re k:=(b_x.1).mono (by omega)
theorem eParts0_b0_4(x:QC){k:Nat}(b_x:ZL x k):RL x.im k:=(b_x.2).mono (by omega)
end Go.Proofs.YthklnbaddobieaaGreat
namespace Tr
open Go Go.RowKit
section
variable{P:Program}{L:List GF}{hp:Bool}
end
end Tr
namespace Tr
open Go Go.RowKit
section
variable{P:Program}{T:Nat→Fact}{cx:Cx}
end
section
variable{P:Program}{L:List GF}{hp:Bool}
end
end Tr
namespace Go.Proofs.YthklnbaddobieaaGreat
open Go.RowKit Tr
end Go.Proofs.YthklnbaddobieaaGreat
namespace Go.Proofs.YthklnbaddobieaaGreat
open Go.RowKit Tr
theorem sgn_ne{q:Rat}(h:¬q.num.sign=0):q≠0:=fun e=>h (by rw[e]; rfl)
structure RawM where
 a:RawG
 b:RawG
 c:RawG
 d:RawG
 t:Bool
def RawM.val(m:RawM):Value:=.agg (m.a.vals++m.b.vals++m.c.vals++m.d.vals++[Value.bool m.t]).toArray
theorem ite_both{α:Type}{p q:Prop}[Decidable p][Decidable q](a b:α):(if p then(if q then a else b) else b)=if p∧q then a else b:=by
 by_cases hp:p<;>by_cases hq:q<;>simp[hp,hq]
end Go.Proofs.YthklnbaddobieaaGreat
namespace Go.Proofs.YthklnbaddobieaaGreat
open Go.RowKit Tr
end Go.Proofs.YthklnbaddobieaaGreat
set_option linter.unusedSimpArgs false
namespace Go.Proofs.YthklnbaddobieaaGreat
open Go.RowKit Tr
open Classical
theorem eSame(x y:QC)(b_x:ZL x 2000000)(b_y:ZL y 2000000) :SpecC Tryz.prog true 185 [.row (cn x),.row (cn y)] (if(x - y)=(⟨0,0⟩:QC) then .r (.c (gl (.bool true))) else .r (.c (gl (.bool false)))) :=
  have t1:=pNSub x y b_x b_y (by decide)
  have t2:=pNZero (x - y)
  (Classical.em ((x - y) = (⟨0,0⟩ : QC))).elim (fun h0 => .it h0 (ev_sp (L := [cn x,cn y,cn (x - y)].flatten) tys_ok mixed
     [gs (t1) [sy [0,1],sy [2,3]] (.r (sy [4,5])),gs (t2 true (tI h0)) [sy [4,5]] (.r (.c (.lit (.bool true))))]
     [] [] Tryz.func185 eo185 2000 [sy [0,1],sy [2,3]] (.r (.c (.lit (.bool true))))))
   (fun h0=>.ie (fun h=>h0 h) (ev_sp (L:=[cn x,cn y,cn (x - y)].flatten) tys_ok mixed
     [gs (t1) [sy [0,1],sy [2,3]] (.r (sy [4,5])),gs (t2 false (fI h0)) [sy [4,5]] (.r (.c (.lit (.bool false))))]
     [] [] Tryz.func185 eo185 2000 [sy [0,1],sy [2,3]] (.r (.c (.lit (.bool false))))))
theorem pNSame(x y:QC){m l:Nat}(hx:ZL x m)(hy:ZL y l)(hb:m+l<2000000)(r:Bool)(hr:r=true↔x=y):SpecC Tryz.prog true 185 [N1 x,N1 y] (B1 r):=by
 have h:=eSame x y (hx.mono (by omega)) (hy.mono (by omega))
 cases r
 ·exact h.f (fun e=>by cases hr.2 (qc_sub0.1 e))
 ·exact h.t (qc_sub0.2 (hr.1 rfl))
end Go.Proofs.YthklnbaddobieaaGreat
set_option linter.unusedSimpArgs false
namespace Go.Proofs.YthklnbaddobieaaGreat
open Go.RowKit Tr
open Classical
end Go.Proofs.YthklnbaddobieaaGreat
set_option linter.unusedSimpArgs false
namespace Go.Proofs.YthklnbaddobieaaGreat
open Go.RowKit Tr
open Classical
end Go.Proofs.YthklnbaddobieaaGreat
set_option linter.unusedSimpArgs false
namespace Go.Proofs.YthklnbaddobieaaGreat
open Go.RowKit Tr
open Classical
end Go.Proofs.YthklnbaddobieaaGreat
set_option linter.unusedSimpArgs false
namespace Go.Proofs.YthklnbaddobieaaGreat
open Go.RowKit Tr
open Classical
theorem npos{q:Rat}:0<q.num↔0<q:=by
 constructor
 ·intro h
  have h1:0≤q:=Rat.num_nonneg.1 (by omega)
  have h2:q≠0:=fun e=>by rw[e] at h; exact absurd h (by decide)
  grind
 ·intro h
  have h1:0≤q.num:=Rat.num_nonneg.2 (by grind)
  have h2:q.num≠0:=fun e=>by rw[Rat.num_eq_zero.1 e] at h; exact absurd h (by decide)
  omega
theorem spos{q:Rat}(h:¬q.num.sign≤0):0<q:=by
 have h1:0<q.num:=by
  rcases Int.lt_trichotomy q.num 0 with k|k|k
  ·rw[Int.sign_eq_neg_one_of_neg k] at h; omega
  ·rw[k] at h; simp at h
  ·exact k
 exact npos.1 h1
theorem snegp{q:Rat}(h:q.num.sign≤0):¬0<q:=fun k=>by
 have h1:0<q.num:=npos.2 k
 rw[Int.sign_eq_one_of_pos h1] at h; omega
end Go.Proofs.YthklnbaddobieaaGreat
set_option linter.unusedSimpArgs false
namespace Go.Proofs.YthklnbaddobieaaGreat
open Go.RowKit Tr
open Classical
end Go.Proofs.YthklnbaddobieaaGreat
set_option linter.unusedSimpArgs false
namespace Go.Proofs.YthklnbaddobieaaGreat
open Go.RowKit Tr
open Classical
theorem rsq(x:Rat):0≤x*x:=by
 by_cases h:0≤x
 ·exact Rat.mul_nonneg h h
 ·have h1:0≤-x:=by grind
  have h2:=Rat.mul_nonneg h1 h1
  grind
end Go.Proofs.YthklnbaddobieaaGreat
set_option linter.unusedSimpArgs false
namespace Go.Proofs.YthklnbaddobieaaGreat
open Go.RowKit Tr
open Classical
end Go.Proofs.YthklnbaddobieaaGreat
set_option linter.unusedSimpArgs false
namespace Go.Proofs.YthklnbaddobieaaGreat
open Go.RowKit Tr
open Classical
def vl(a b e d:Rat)(z:QC):Rat:=a*nm z+2*(b*z.re - e*z.im)+d
end Go.Proofs.YthklnbaddobieaaGreat
namespace Go.Proofs.YthklnbaddobieaaGreat
open Go.RowKit Tr
end Go.Proofs.YthklnbaddobieaaGreat
namespace Go.Proofs.YthklnbaddobieaaGreat
open Go.RowKit Tr
def stp(t:Bool)(a b c d:QC)(p:QC×QC×QC×QC):QC×QC×QC×QC :=
 if t then(a*cj p.1+b*cj p.2.2.1,a*cj p.2.1+b*cj p.2.2.2,c*cj p.1+d*cj p.2.2.1,c*cj p.2.1+d*cj p.2.2.2)
 else(a*p.1+b*p.2.2.1,a*p.2.1+b*p.2.2.2,c*p.1+d*p.2.2.1,c*p.2.1+d*p.2.2.2)
def Nf(p:QC×QC×QC×QC):Prop:=p.2.2.1=⟨1,0⟩∨(p.2.2.1=⟨0,0⟩∧p.2.2.2=⟨1,0⟩)
def dq(p:QC×QC×QC×QC):QC:=p.1*p.2.2.2 - p.2.1*p.2.2.1
end Go.Proofs.YthklnbaddobieaaGreat
namespace Go.Proofs.YthklnbaddobieaaGreat
open Go.RowKit Tr
abbrev Q4:=QC×QC×QC×QC
def ZL4(p:Q4)(k:Nat):Prop:=ZL p.1 k∧ZL p.2.1 k∧ZL p.2.2.1 k∧ZL p.2.2.2 k
theorem ZL4.mono{p:Q4}{k l:Nat}(h:ZL4 p k)(hk:k≤l):ZL4 p l:=⟨h.1.mono hk,h.2.1.mono hk,h.2.2.1.mono hk,h.2.2.2.mono hk⟩
end Go.Proofs.YthklnbaddobieaaGreat
namespace Go.Proofs.YthklnbaddobieaaGreat
open Go.RowKit Tr
def IsW(L W:Nat)(z:QC):Prop:=∃ x y:Int,z.re*(L:Int)=(x:Int)∧z.im*(L:Int)=(y:Int)∧x.natAbs≤W∧y.natAbs≤W
theorem IsW.mul{L W L' W':Nat}{z w:QC}(h:IsW L W z)(k:IsW L' W' w):IsW (L*L') (2*(W*W')) (z*w):=by
 obtain⟨x,y,h1,h2,h3,h4⟩:=h
 obtain⟨u,v,k1,k2,k3,k4⟩:=k
 refine⟨x*u - y*v,x*v+y*u,?_,?_,?_,?_⟩
 ·rw[Int.natCast_mul,Rat.intCast_mul,Rat.intCast_sub,Rat.intCast_mul,Rat.intCast_mul,←h1,←h2,←k1,←k2,qmr]; grind
 ·rw[Int.natCast_mul,Rat.intCast_mul,Rat.intCast_add,Rat.intCast_mul,Rat.intCast_mul,←h1,←h2,←k1,←k2,qmi]; grind
 ·have e1:=Nat.mul_le_mul h3 k3
  have e2:=Nat.mul_le_mul h4 k4
  rw[←Int.natAbs_mul] at e1 e2
  have:=Int.natAbs_sub_le (x*u) (y*v)
  omega
 ·have e1:=Nat.mul_le_mul h3 k4
  have e2:=Nat.mul_le_mul h4 k3
  rw[←Int.natAbs_mul] at e1 e2
  have:=Int.natAbs_add_le (x*v) (y*u)
  omega
theorem IsW.add{L W W':Nat}{z w:QC}(h:IsW L W z)(k:IsW L W' w):IsW L (W+W') (z+w):=by
 obtain⟨x,y,h1,h2,h3,h4⟩:=h
 obtain⟨u,v,k1,k2,k3,k4⟩:=k
 refine⟨x+u,y+v,?_,?_,?_,?_⟩
 ·rw[Rat.intCast_add,←h1,←k1,qar]; grind
 ·rw[Rat.intCast_add,←h2,←k2,qai]; grind
 ·have:=Int.natAbs_add_le x u; omega
 ·have:=Int.natAbs_add_le y v; omega
theorem IsW.cj{L W:Nat}{z:QC}(h:IsW L W z):IsW L W (cj z):=by
 obtain⟨x,y,h1,h2,h3,h4⟩:=h
 refine⟨x,-y,h1,?_,h3,by omega⟩
 rw[Rat.intCast_neg,←h2]; show -z.im*_=_; grind
def W4(L W:Nat)(p:QC×QC×QC×QC):Prop:=IsW L W p.1∧IsW L W p.2.1∧IsW L W p.2.2.1∧IsW L W p.2.2.2
theorem IsW_of{z:QC}{L B D:Nat}(hr:z.re.den ∣ L)(hi:z.im.den ∣ L)(hL:L≤D)(h1:z.re.num.natAbs≤B)(h2:z.im.num.natAbs≤B):IsW L (B*D) z:=by
 obtain⟨u,hu⟩:=hr
 obtain⟨v,hv⟩:=hi
 refine⟨z.re.num*u,z.im.num*v,?_,?_,?_,?_⟩
 ·rw[hu,Int.natCast_mul,Rat.intCast_mul,Rat.intCast_mul,←num_den z.re]; grind
 ·rw[hv,Int.natCast_mul,Rat.intCast_mul,Rat.intCast_mul,←num_den z.im]; grind
 ·rw[Int.natAbs_mul]
  refine Nat.mul_le_mul h1 ?_
  have:=z.re.den_nz
  rw[Int.natAbs_natCast]
  exact Nat.le_trans (Nat.le_mul_of_pos_left u (Nat.pos_of_ne_zero z.re.den_nz)) (by rw[←hu]; exact hL)
 ·rw[Int.natAbs_mul]
  refine Nat.mul_le_mul h2 ?_
  have:=z.im.den_nz
  rw[Int.natAbs_natCast]
  exact Nat.le_trans (Nat.le_mul_of_pos_left v (Nat.pos_of_ne_zero z.im.den_nz)) (by rw[←hv]; exact hL)
theorem wl_m{m n j k:Nat}(h:(words m).length≤j)(g:(words n).length≤k):(words (m*n)).length≤j+k:=wl_mul h g
theorem dvd8(a b c d e f g h:Nat):a ∣ a*(b*(c*(d*(e*(f*(g*h))))))∧b ∣ a*(b*(c*(d*(e*(f*(g*h))))))∧c ∣ a*(b*(c*(d*(e*(f*(g*h))))))∧d ∣ a*(b*(c*(d*(e*(f*(g*h))))))∧e ∣ a*(b*(c*(d*(e*(f*(g*h))))))∧f ∣ a*(b*(c*(d*(e*(f*(g*h))))))∧g ∣ a*(b*(c*(d*(e*(f*(g*h))))))∧h ∣ a*(b*(c*(d*(e*(f*(g*h)))))):=by
 have l:∀{x y z:Nat},x ∣ y→x ∣ z*y:=fun h=>Nat.dvd_trans h (Nat.dvd_mul_left _ _)
 have o:∀ x y:Nat,x ∣ x*y:=fun x y=>Nat.dvd_mul_right x y
 exact⟨o _ _,l (o _ _),l (l (o _ _)),l (l (l (o _ _))),l (l (l (l (o _ _)))),l (l (l (l (l (o _ _))))),l (l (l (l (l (l (o _ _)))))),l (l (l (l (l (l (l (Nat.dvd_refl _)))))))⟩
theorem big_of(k:Nat):∃ B,(words B).length≤k+1∧∀ n,(words n).length≤k→n≤B :=
 ⟨4294967296 ^ k,words_length_le (Nat.pow_lt_pow_right (by decide) (by omega)),fun n h=>Nat.le_of_lt (Nat.lt_of_lt_of_le (lt_words n) (Nat.pow_le_pow_right (by decide) h))⟩
end Go.Proofs.YthklnbaddobieaaGreat
namespace Go.Proofs.YthklnbaddobieaaGreat
open Go.RowKit Tr
def q1:Q4:=(⟨1,0⟩,⟨0,0⟩,⟨0,0⟩,⟨1,0⟩)
def mul4(x y:Q4):Q4:=stp false x.1 x.2.1 x.2.2.1 x.2.2.2 y
def adj4(b:Q4):Q4:=(b.2.2.2,⟨0,0⟩ - b.2.1,⟨0,0⟩ - b.2.2.1,b.1)
def W1(b m:Q4):Q4:=mul4 m (adj4 b)
def W2(b m:Q4):Q4:=mul4 b (W1 b m)
section
variable{b m:Q4}(hb:dq b≠⟨0,0⟩)(hm:dq m≠⟨0,0⟩)
end
theorem W4_ofk{a b c d:QC}{k:Nat}(ha:ZL a k)(hb:ZL b k)(hc:ZL c k)(hd:ZL d k):∃ L W,L≠0∧(words L).length≤8*k∧(words W).length≤9*k+1∧W4 L W (a,b,c,d):=by
 obtain⟨L,hL⟩:∃ L,L=a.re.den*(a.im.den*(b.re.den*(b.im.den*(c.re.den*(c.im.den*(d.re.den*d.im.den)))))):=⟨_,rfl⟩
 obtain⟨d1,d2,d3,d4,d5,d6,d7,d8⟩:=dvd8 a.re.den a.im.den b.re.den b.im.den c.re.den c.im.den d.re.den d.im.den
 rw[←hL] at d1 d2 d3 d4 d5 d6 d7 d8
 have hl:(words L).length≤8*k:=by
  rw[hL]
  exact Nat.le_trans (wl_m ha.1.2 (wl_m ha.2.2 (wl_m hb.1.2 (wl_m hb.2.2 (wl_m hc.1.2 (wl_m hc.2.2 (wl_m hd.1.2 hd.2.2))))))) (by omega)
 have h0:L≠0:=by
  have:=a.re.den_nz; have:=a.im.den_nz; have:=b.re.den_nz; have:=b.im.den_nz; have:=c.re.den_nz; have:=c.im.den_nz; have:=d.re.den_nz; have:=d.im.den_nz
  rw[hL]
  simp only[Nat.mul_ne_zero_iff]
  exact⟨by assumption,by assumption,by assumption,by assumption,by assumption,by assumption,by assumption,by assumption⟩
 obtain⟨B,hB1,hB2⟩:=big_of k
 have hB:∀{q:Rat},RL q k→q.num.natAbs≤B:=fun h=>hB2 _ h.1
 refine⟨L,B*L,h0,hl,Nat.le_trans (wl_m hB1 hl) (by omega),?_⟩
 exact⟨IsW_of d1 d2 (Nat.le_refl _) (hB ha.1) (hB ha.2),IsW_of d3 d4 (Nat.le_refl _) (hB hb.1) (hB hb.2),IsW_of d5 d6 (Nat.le_refl _) (hB hc.1) (hB hc.2),IsW_of d7 d8 (Nat.le_refl _) (hB hd.1) (hB hd.2)⟩
theorem IsW.sub{L W W':Nat}{z w:QC}(h:IsW L W z)(k:IsW L W' w):IsW L (W+W') (z - w):=by
 obtain⟨x,y,h1,h2,h3,h4⟩:=h
 obtain⟨u,v,k1,k2,k3,k4⟩:=k
 refine⟨x - u,y - v,?_,?_,?_,?_⟩
 ·rw[Rat.intCast_sub,←h1,←k1,qsr]; grind
 ·rw[Rat.intCast_sub,←h2,←k2,qsi]; grind
 ·have:=Int.natAbs_sub_le x u; omega
 ·have:=Int.natAbs_sub_le y v; omega
theorem IsW.mono{L W W':Nat}{z:QC}(h:IsW L W z)(k:W≤W'):IsW L W' z:=by
 obtain⟨x,y,h1,h2,h3,h4⟩:=h
 exact⟨x,y,h1,h2,by omega,by omega⟩
end Go.Proofs.YthklnbaddobieaaGreat
set_option linter.unusedSimpArgs false
namespace Go.Proofs.YthklnbaddobieaaGreat
open Go.RowKit Tr
open Classical
def tw(t:Bool)(w:QC):QC:=if t then cj w else w
def den(t:Bool)(c d w:QC):QC:=c*tw t w+d
end Go.Proofs.YthklnbaddobieaaGreat
set_option linter.unusedSimpArgs false
namespace Go.Proofs.YthklnbaddobieaaGreat
open Go.RowKit Tr
open Classical
theorem run_eql_rcc(w:World)(a b c d a' b' c' d':Rat)(r:Bool)(hr:r=true↔(a=a'∧b=b'∧c=c'∧d=d')):(binOp .eql 69 (cirV a b c d) (cirV a' b' c' d')).run Tryz.prog w=.ok (.bool r) w:=by
 cases r
 ·have hn:=mt hr.2 Bool.false_ne_true
  unfold cirV
  go_simp
  simp only[toL_iff,ite_both]
  intro h1 h2 h3 h4 h5 h6 h7 h8 h9 h10 h11 h12
  exact hn ⟨encF_inj' (by unfold encF; rw[h2,h3,decide_eq_decide.2 h1]),encF_inj' (by unfold encF; rw[h5,h6,decide_eq_decide.2 h4]),encF_inj' (by unfold encF; rw[h8,h9,decide_eq_decide.2 h7]),encF_inj' (by unfold encF; rw[h11,h12,decide_eq_decide.2 h10])⟩
 ·obtain⟨rfl,rfl,rfl,rfl⟩:=hr.1 rfl
  exact run_eql_rc w a b c d
end Go.Proofs.YthklnbaddobieaaGreat
namespace Go.Proofs.YthklnbaddobieaaGreat
open Go.RowKit Tr
theorem ZL4.w{p:Q4}{k:Nat}(h:ZL4 p k):∃ L W,L≠0∧(words L).length≤8*k∧(words W).length≤9*k+1∧W4 L W p:=by
 obtain⟨a,b,c,d⟩:=p
 exact W4_ofk h.1 h.2.1 h.2.2.1 h.2.2.2
end Go.Proofs.YthklnbaddobieaaGreat
set_option linter.unusedSimpArgs false
namespace Go.Proofs.YthklnbaddobieaaGreat
open Go.RowKit Tr
open Classical
end Go.Proofs.YthklnbaddobieaaGreat
set_option linter.unusedSimpArgs false
namespace Go.Proofs.YthklnbaddobieaaGreat
open Go.RowKit Tr
open Classical
end Go.Proofs.YthklnbaddobieaaGreat
set_option linter.unusedSimpArgs false
namespace Go.Proofs.YthklnbaddobieaaGreat
open Go.RowKit Tr
open Classical
structure RawF where
 n1:Bool
 n2:Bool
 s1:ByteArray
 s2:ByteArray
def RawF.cells(f:RawF):List GF:=[gx (.bool f.n1),gx (.string f.s1),gx (.bool f.n2),gx (.string f.s2)]
def rawF(q:Rat):RawF:=⟨decide (q.num<0),false,strN q.num.natAbs,strN q.den⟩
end Go.Proofs.YthklnbaddobieaaGreat
namespace Go.Proofs.YthklnbaddobieaaGreat
open Go.RowKit Tr
def RawF.val(f:RawF):Value:=.agg #[.bool f.n1,.string f.s1,.bool f.n2,.string f.s2]
def RawF.Sz(f:RawF):Prop:=f.s1.size≤1000000000∧f.s2.size≤1000000000
theorem rawF_val(q:Rat):(rawF q).val=encF q:=rfl
theorem rawF_inj{f g:RawF}(e:f.val=g.val):f=g:=by
 obtain⟨n1,n2,s1,s2⟩:=f
 obtain⟨m1,m2,t1,t2⟩:=g
 simp only[RawF.val,Value.agg.injEq,Array.mk.injEq,List.cons.injEq,Value.bool.injEq,Value.string.injEq,and_true] at e
 obtain⟨rfl,rfl,rfl,rfl⟩:=e
 rfl
theorem fOk_raw{f:RawF}(h:FracOk f.val):∃ q,f=rawF q∧ShortF q:=by
 obtain⟨q,e,hs⟩:=h
 exact⟨q,rawF_inj (by rw[e,rawF_val]),hs⟩
theorem pERatN(f:RawF)(hs:f.Sz)(h:¬FracOk f.val):SpecC Tryz.prog true 192 [.row f.cells] (.r (.c (gl .nilp))) :=
 spec1 eo192 fun w A u _ _ hu=>by
  have h1:=hs.1
  have h2:=hs.2
  rw[(FR.val_ok (u:=f.val) (x:=.row f.cells) (by kernel_rfl)).1 hu]
  refine(ERat_any f.n1 f.n2 f.s1 f.s2 (by omega) (by omega) w).mono ?_
  rintro e w' ⟨v,h1,h2,h3⟩
  rcases h2 with⟨_,rfl⟩|⟨q,e2,hq,_⟩
  ·exact⟨_,h1,rfl,h3⟩
  ·exact absurd hq h
theorem pERatA(f:RawF)(hs:f.Sz):SpecC Tryz.prog true 192 [.row f.cells] (.r (.c ga)):=by
 by_cases h:FracOk f.val
 ·obtain⟨q,rfl,hq⟩:=fOk_raw h
  exact(pERat q hq).anyL rfl
 ·exact(pERatN f hs h).anyL rfl
theorem rfMay(f:RawF)(r:Bool)(hr:r=true↔FracOk f.val):SpecC Tryz.prog false 13 [.row f.cells] (B1 r) :=
 spec_pure eo13 (fmay f.n1 f.n2 f.s1 f.s2 r hr) (by kernel_rfl) (by kernel_rfl)
theorem rfMayQ(q:Rat)(h:ShortF q):SpecC Tryz.prog false 13 [F1 q] (.r (.c (gl (.bool true)))) :=
 rfMay (rawF q) true ⟨fun _=>⟨q,rfl,h.1,h.2⟩,fun _=>rfl⟩
end Go.Proofs.YthklnbaddobieaaGreat
