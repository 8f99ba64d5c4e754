/- Laws for the walk. -/
import Derived.Test.YtmimficdpfmfgaaGreatZbb
set_option linter.unusedVariables false
set_option maxHeartbeats 4000000
namespace Tr
theorem RL.upby{q:Rat}{n:Nat}(h:RL q n)(j:Nat):RL q (n+j):=h.mono (by omega)
end Tr
namespace Go.Proofs.YtmimficdpfmfgaaGreat
open Go.RowKit Tr
theorem ZL.upby{z:QC}{n:Nat}(h:ZL z n)(j:Nat):ZL z (n+j):=h.mono (by omega)
theorem ratB_P{base:Nat}{q:Rat}{v:Value}{w:World}{A:Nat→Prop}(h:RatB base q v w A):RatP q v w A:=by
 obtain⟨_,_,_,_,_,_,_,_,h⟩:=h; exact h
theorem pRCmpK(x y:Rat)(v:Int){m l:Nat}(hx:RL x m)(hy:RL y l)(hb:m+l<137438953472)(h:cmpR x y=v):Qah Tryz.prog true 149 [.c (gr x),.c (gr y)] (.r (.c (gl (.int .i64 v)))):=by
 subst h; exact pRCmp x y hx hy hb
theorem Qcj(q:Rat)(n:Nat)(h:(decide ((words q.num.natAbs).length≤n) && decide ((words q.den).length≤n))=true):RL q n:=by
 simp only[Bool.and_eq_true,decide_eq_true_eq] at h
 exact h
theorem Qbz(z:QC)(n:Nat)(h:(decide ((words z.re.num.natAbs).length≤n) && decide ((words z.re.den).length≤n) && (decide ((words z.im.num.natAbs).length≤n) && decide ((words z.im.den).length≤n)))=true):ZL z n:=by
 simp only[Bool.and_eq_true,decide_eq_true_eq] at h
 exact⟨h.1,h.2⟩
theorem ZL_mk{a b:Rat}{k:Nat}(h:RL a k)(h':RL b k):ZL (⟨a,b⟩:QC) k:=⟨h,h'⟩
section
variable{f:FuncId}{x y:Rat}{r:FV}
theorem argOR(h:Qah Tryz.prog true f [.c (gro x),.c (gro y)] r):Qah Tryz.prog true f [.c (gro x),.c (gr y)] r :=
 ⟨h.ent,fun w A vs hR hA hu=>by
  match vs,hu with
  | [a,b],hu=>exact h.ok w A [a,b] hR hA ⟨hu.1,.inr hu.2.1,trivial⟩⟩
theorem argRR(h:Qah Tryz.prog true f [.c (gro x),.c (gro y)] r):Qah Tryz.prog true f [.c (gr x),.c (gr y)] r :=
 ⟨h.ent,fun w A vs hR hA hu=>by
  match vs,hu with
  | [a,b],hu=>exact h.ok w A [a,b] hR hA ⟨.inr hu.1,.inr hu.2.1,trivial⟩⟩
end
theorem outF_short{q:Rat}(h:Qam q){w:World}{A:Nat→Prop}:FV.R (.tup [.row (rF q),.c (gl (.int .i64 0))]) (.tuple #[outF q,.int .i64 (outC q)]) w A:=by
 refine(FV.val_ok (u:=.tuple #[encF q,.int .i64 0]) (by kernel_rfl)).2 ?_
 rw[outF,outC,if_pos h,if_pos h]
theorem outF_zero{q:Rat}(h:¬Qam q){w:World}{A:Nat→Prop}:FV.R (.tup [.row zFG,.c (gl (.int .i64 4))]) (.tuple #[outF q,.int .i64 (outC q)]) w A:=by
 refine(FV.val_ok (u:=.tuple #[zF,.int .i64 4]) (by kernel_rfl)).2 ?_
 rw[outF,outC,if_neg h,if_neg h]
theorem Qbg(q:Rat)(hq:RL q 137438953472)(h:Qam q):Qah Tryz.prog true 120 [.c (gr q)] (.tup [.row (rF q),.c (gl (.int .i64 0))]) :=
 spec1 eo120 fun w A u hR _ hu=>(EFrac_any q u A w (.inr hu) hq).mono fun e w' h1=>⟨_,h1.1,outF_short h,h1.2⟩
theorem Qci(q:Rat)(hq:RL q 137438953472)(h:¬Qam q):Qah Tryz.prog true 120 [.c (gr q)] (.tup [.row zFG,.c (gl (.int .i64 4))]) :=
 spec1 eo120 fun w A u hR _ hu=>(EFrac_any q u A w (.inr hu) hq).mono fun e w' h1=>⟨_,h1.1,outF_zero h,h1.2⟩
theorem pERat(q:Rat)(h:Qam q):Qah Tryz.prog true 148 [.row (rF q)] (.r (.c (gr q))) :=
 spec1 eo148 fun w A u hR hA hu=>by
  rw[(FR.val_ok (u:=encF q) (x:=.row (rF q)) (by kernel_rfl)).1 hu]
  refine(ERat_any _ _ _ _ (Nat.lt_of_le_of_lt h.1 (by decide)) (Nat.lt_of_le_of_lt h.2 (by decide)) w).mono ?_
  rintro e w' ⟨v,h1,h2,h3⟩
  rcases h2 with⟨h2,_⟩|⟨q',e2,_,h2⟩
  ·exact absurd ⟨q,rfl,h.1,h.2⟩ h2
  ·have h6:q=q':=encF_inj' e2
   subst h6
   exact⟨_,h1,(h2.new h3 (Nat.le_refl _)).2 A (hR rfl),h3⟩
theorem pEReal(q:Rat):Qah Tryz.prog true 126 [.c (gr q)] (.r (.row (cn (⟨q,0⟩:QC)))):=by
 have k:Qah Tryz.prog true 126 [.c (gr q)] (.r (.row [gr q,gl .nilp])) :=
  Qav (L:=[gr q]) tys_ok mixed [] [] [] Tryz.func126 eo126 2000 [.c (.sym 0)] (.r (.row [.sym 0,.lit .nilp]))
 exact⟨k.ent,fun w A vs hR hA hu=>(k.ok w A vs hR hA hu).mono fun r w' ⟨v,h1,h2,h3⟩=>⟨v,h1,by
  obtain⟨us,rfl,h2⟩:=h2
  match us,h2 with
  | [a,b],h2=>exact⟨[a,b],rfl,.inr h2.1,.inl ⟨h2.2.1,rfl⟩,trivial⟩,h3⟩⟩
theorem Qcb(q:Rat)(v:Int)(h:q.num.sign=v):Qah Tryz.prog false 78 [.c (gr q)] (.r (.c (gl (.int .i64 v)))):=by
 subst h; exact Qan q
theorem pERoot(q:Rat)(hq:RL q 134217728)(h:HasR q):Qah Tryz.prog true 192 [.c (gr q)] (.tup [.c (gr (sqr q)),.c (gl (.bool true))]) :=
 spec1 eo192 fun w A u hR hA hu=>by
  refine(root_any q true ⟨fun _=>h,fun _=>rfl⟩ u A w hu (hR rfl) 134217728 hq (Nat.le_refl _)).mono ?_
  rintro e w' ⟨v,rfl,hb,h1⟩
  exact⟨_,rfl,⟨[v,.bool true],rfl,ratB_P (h1 rfl),rfl,trivial⟩,hb⟩
theorem pERootK(q r:Rat)(hq:RL q 134217728)(h0:0≤r)(h:r*r=q):Qah Tryz.prog true 192 [.c (gr q)] (.tup [.c (gr r),.c (gl (.bool true))]):=by
 have k:=pERoot q hq ⟨r,h0,h⟩
 rw[show sqr q=r from(sqr_eq h0 h).2] at k
 exact k
theorem Qaw(x y:Rat)(hx:RL x 134217728)(hy:RL y 134217728):Qah Tryz.prog false 140 [F1 x,F1 y] (.r (F1 (x - y))):=Qbd eo140 (fminus x y hx hy) (by kernel_rfl) (by kernel_rfl)
theorem Qcw(x:Rat):Qah Tryz.prog false 144 [F1 x] (.r (F1 (-x))):=Qbd eo144 (fneg x) (by kernel_rfl) (by kernel_rfl)
theorem rfSmall(n d:Int)(q:Rat)(h1:-9223372036854775808≤n)(h2:n<9223372036854775808)(h3:-9223372036854775808≤d)(h4:d<9223372036854775808)(h0:d≠0)(hq:Rat.divInt n d=q):Qah Tryz.prog false 69 [.c (gx (.int .i64 n)),.c (gx (.int .i64 d))] (.r (F1 q)):=by
 subst hq
 exact Qbd eo69 (fsmall n d h1 h2 h3 h4 h0) (by kernel_rfl) (by kernel_rfl)
theorem rGNeg(z:QC):Qah Tryz.prog false 164 [G1 z] (.r (G1 (ng z))):=Qbd eo164 (gneg z) (by kernel_rfl) (by kernel_rfl)
theorem run_eql_b4(w:World)(n m:Bool)(s1 s2 t1 t2:ByteArray)(r:Bool)(hr:r=true↔(n=m∧s1=t1∧s2=t2)) :
  (binOp .eql 26 (.agg #[.bool n,.string s1,.bool false,.string s2]) (.agg #[.bool m,.string t1,.bool false,.string t2])).run Tryz.prog w=.ok (.bool r) w:=by
 go_simp
 simp only[toL_iff]
 cases r
 ·have hn:¬(n=m∧s1=t1∧s2=t2):=fun h=>by cases hr.2 h
  repeat' split
  all_goals first
   | rfl
   | (exfalso; apply hn; refine⟨?_,?_,?_⟩<;>assumption)
 ·obtain⟨rfl,rfl,rfl⟩:=hr.1 rfl
  simp
theorem run_eql_rf(w:World)(p q:Rat)(r:Bool)(hr:r=true↔p=q):(binOp .eql 26 (encF p) (encF q)).run Tryz.prog w=.ok (.bool r) w :=
 run_eql_b4 w _ _ _ _ _ _ r (hr.trans ⟨fun h=>by subst h; exact⟨rfl,rfl,rfl⟩,fun h=>encF_inj' (by unfold encF; rw[h.1,h.2.1,h.2.2])⟩)
def bF{L:List GF}(x y:AR)(p q:Rat)(r:Bool)(hr:r=true↔p=q)(hx:x.gv L=some (encF p):=by kernel_rfl)(hy:y.gv L=some (encF q):=by kernel_rfl):GB Tryz.prog L :=
 gb .eql 26 x y (.lit (.bool r)) (agg_eql (by kernel_rfl) (fun w=>run_eql_rf w p q r hr)) hx hy rfl
def cirV(a b c d:Rat):Value:=.agg #[.bool (decide (a.num<0)),.string (strN a.num.natAbs),.bool false,.string (strN a.den),.bool (decide (b.num<0)),.string (strN b.num.natAbs),.bool false,.string (strN b.den),
 .bool (decide (c.num<0)),.string (strN c.num.natAbs),.bool false,.string (strN c.den),.bool (decide (d.num<0)),.string (strN d.num.natAbs),.bool false,.string (strN d.den)]
theorem run_eql_rc(w:World)(a b c d:Rat):(binOp .eql 47 (cirV a b c d) (cirV a b c d)).run Tryz.prog w=.ok (.bool true) w:=by
 unfold cirV
 go_simp
def bCt{L:List GF}(x y:AR)(a b c d:Rat)(hx:x.gv L=some (cirV a b c d):=by kernel_rfl)(hy:y.gv L=some (cirV a b c d):=by kernel_rfl):GB Tryz.prog L :=
 gb .eql 47 x y (.lit (.bool true)) (agg_eql (by kernel_rfl) (fun w=>run_eql_rc w a b c d)) hx hy rfl
def gbNilR{L:List GF}(q:Rat)(x:AC)(hx:AC.lk L x=some (gr q):=by kernel_rfl):GB Tryz.prog L :=
 ⟨{ op:=.eql,t:=114,x:=.c x,y:=.c (.lit .nilp),res:=.lit (.bool false) },fun σ w A vx vy xo yo h1 h2=>by
  obtain⟨b,rfl,_⟩:=(AC.lk_ok (σ:=σ) (x:=x) hx).1 h1
  cases(show vy=.pointer none from h2)
  exact⟨.bool false,by go_simp,rfl⟩⟩
theorem RL_z0{k:Nat}:RL (0:Rat) (k+1):=⟨Nat.le_trans (by decide +kernel:(words (0:Rat).num.natAbs).length≤1) (by omega),Nat.le_trans (by decide +kernel:(words (0:Rat).den).length≤1) (by omega)⟩
end Go.Proofs.YtmimficdpfmfgaaGreat
