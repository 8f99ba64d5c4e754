/- Laws. -/
import Derived.Test.YtmimficdpfmfgaaGreatWas
set_option linter.all false
set_option maxHeartbeats 4000000
set_option maxRecDepth 100000
namespace Tr
def RL.upby{q:Rat}{n:Nat}(h:RL q n)(j:Nat):RL q (n+j):=h.mono (by omega)
end Tr
namespace Go.Proofs.YtmimficdpfmfgaaGreat
open Go.RowKit Tr Proofs.Tryz
def ZL.upby{z:QC}{n:Nat}(h:ZL z n)(j:Nat):ZL z (n+j):=h.mono (by omega)
def Uqo{base:Nat}{q:Rat}{v:Value}{w:World}{A:Nat->Prop}(h:Kxq base q v w A):Qbk q v w A:=by
 obtain⟨_,_,_,_,_,_,_,_,h⟩:=h;exact h
def Krz(x y:Rat)(v:Int){m l:Nat}(hx:RL x m)(hy:RL y l)(hb:m+l<137438953472)(h:Qig x y=v):Qbj prog true 149 [.c (gr x),.c (gr y)] (.r (.c (gl (.int .i64 v)))):=by
 subst h;exact Keo x y hx hy hb
def Qeb(q:Rat)(n:Nat)(h:(decide ((Qac q.num.natAbs).length<=n)&&decide ((Qac q.den).length<=n))=true):RL q n:=by
 simp only[Bool.and_eq_true,decide_eq_true_eq] at h;exact h
def Qkb(z:QC)(n:Nat)(h:(decide ((Qac z.re.num.natAbs).length<=n)&&decide ((Qac z.re.den).length<=n)&&(decide ((Qac z.im.num.natAbs).length<=n)&&decide ((Qac z.im.den).length<=n)))=true):ZL z n:=by
 simp only[Bool.and_eq_true,decide_eq_true_eq] at h;exact⟨h.1,h.2⟩
def Qau{a b:Rat}{k:Nat}(h:RL a k)(h':RL b k):ZL (⟨a,b⟩:QC) k:=⟨h,h'⟩
section
variable{f:FuncId}{x y:Rat}{r:FV}
def Ump(h:Qbj prog true f [.c (gro x),.c (gro y)] r):Qbj prog true f [.c (gro x),.c (gr y)] r :=
 ⟨h.ent,fun w A vs hR hA hu=>by
  match vs,hu with
  | [a,b],hu=>exact h.ok w A [a,b] hR hA ⟨hu.1,.inr hu.2.1,trivial⟩⟩
def Qiz(h:Qbj prog true f [.c (gro x),.c (gro y)] r):Qbj prog true f [.c (gr x),.c (gr y)] r :=
 ⟨h.ent,fun w A vs hR hA hu=>by
  match vs,hu with
  | [a,b],hu=>exact h.ok w A [a,b] hR hA ⟨.inr hu.1,.inr hu.2.1,trivial⟩⟩
end
def Kls{q:Rat}(h:Qag q){w:World}{A:Nat->Prop}:FV.R (.tup [.row (rF q),.c (gl (.int .i64 0))]) (.tuple #[Khz q,.int .i64 (Klr q)]) w A:=by
 refine(FV.val_ok (u:=.tuple #[Qew q,.int .i64 0]) kR).2 ?_;rw[Khz,Klr,if_pos h,if_pos h]
def Krk{q:Rat}(h:¬Qag q){w:World}{A:Nat->Prop}:FV.R (.tup [.row zFG,.c (gl (.int .i64 4))]) (.tuple #[Khz q,.int .i64 (Klr q)]) w A:=by
 refine(FV.val_ok (u:=.tuple #[zF,.int .i64 4]) kR).2 ?_;rw[Khz,Klr,if_neg h,if_neg h]
def Qdo(q:Rat)(hq:RL q 137438953472)(h:Qag q):Qbj prog true 120 [.c (gr q)] (.tup [.row (rF q),.c (gl (.int .i64 0))]) :=
 Qnm eo120 fun w A u hR _ hu=>(Qmk q u A w (.inr hu) hq).mono fun e w' h1=>⟨_,h1.1,Kls h,h1.2⟩
def Qgn(q:Rat)(hq:RL q 137438953472)(h:¬Qag q):Qbj prog true 120 [.c (gr q)] (.tup [.row zFG,.c (gl (.int .i64 4))]) :=
 Qnm eo120 fun w A u hR _ hu=>(Qmk q u A w (.inr hu) hq).mono fun e w' h1=>⟨_,h1.1,Krk h,h1.2⟩
def Qcm(q:Rat)(h:Qag q):Qbj prog true 148 [.row (rF q)] (.r (.c (gr q))) :=
 Qnm eo148 fun w A u hR hA hu=>by
  rw[(FR.val_ok (u:=Qew q) (x:=.row (rF q)) kR).1 hu];refine(Qqp _ _ _ _ (axd h.1 (by decide)) (axd h.2 (by decide)) w).mono ?_;rintro e w' ⟨v,h1,h2,h3⟩;rcases h2 with⟨h2,_⟩|⟨q',e2,_,h2⟩
  .exact absurd ⟨q,rfl,h.1,h.2⟩ h2
  .have h6:q=q':=Qgk e2;subst h6;exact⟨_,h1,(h2.new h3 lr).2 A (hR rfl),h3⟩
def Qdp(q:Rat):Qbj prog true 126 [.c (gr q)] (.r (.row (cn (⟨q,0⟩:QC)))):=by
 have k:Qbj prog true 126 [.c (gr q)] (.r (.row [gr q,gl .nilp])) :=
  Qco (L:=[gr q]) Qae Qai [] [] [] func126 eo126 2000 [.c (.sym 0)] (.r (.row [.sym 0,.lit .nilp]))
 exact⟨k.ent,fun w A vs hR hA hu=>(k.ok w A vs hR hA hu).mono fun r w' ⟨v,h1,h2,h3⟩=>⟨v,h1,by
  obtain⟨us,rfl,h2⟩:=h2
  match us,h2 with
  | [a,b],h2=>exact⟨[a,b],rfl,.inr h2.1,.inl ⟨h2.2.1,rfl⟩,trivial⟩,h3⟩⟩
def Qik(q:Rat)(v:Int)(h:q.num.sign=v):Qbj prog false 78 [.c (gr q)] (.r (.c (gl (.int .i64 v)))):=by
 subst h;exact Qbb q
def Qwc(q:Rat)(hq:RL q 134217728)(h:Qer q):Qbj prog true 192 [.c (gr q)] (.tup [.c (gr (sqr q)),.c (gl (.bool true))]) :=
 Qnm eo192 fun w A u hR hA hu=>by
  refine(Uay q true ⟨fun _=>h,fun _=>rfl⟩ u A w hu (hR rfl) 134217728 hq lr).mono ?_;rintro e w' ⟨v,rfl,hb,h1⟩;exact⟨_,rfl,⟨[v,.bool true],rfl,Uqo (h1 rfl),rfl,trivial⟩,hb⟩
def Qcz(x y:Rat)(hx:RL x 134217728)(hy:RL y 134217728):Qbj prog false 140 [F1 x,F1 y] (.r (F1 (x-y))):=Qcd eo140 (Ucu x y hx hy) kR kR
def Qhg(x:Rat):Qbj prog false 144 [F1 x] (.r (F1 (-x))):=Qcd eo144 (Unl x) kR kR
def Qou(n d:Int)(q:Rat)(h1:-9223372036854775808<=n)(h2:n<9223372036854775808)(h3:-9223372036854775808<=d)(h4:d<9223372036854775808)(h0:d≠0)(hq:Rat.divInt n d=q):Qbj prog false 69 [.c (gx (.int .i64 n)),.c (gx (.int .i64 d))] (.r (F1 q)):=by
 subst hq;exact Qcd eo69 (Uoc n d h1 h2 h3 h4 h0) kR kR
def Uxq(z:QC):Qbj prog false 164 [G1 z] (.r (G1 (ng z))):=Qcd eo164 (Uzc z) kR kR
def Kmj(w:World)(n m:Bool)(s1 s2 t1 t2:ByteArray)(r:Bool)(hr:r=true↔(n=m/\s1=t1/\s2=t2)) :
  (binOp .eql 26 (.agg #[.bool n,.string s1,.bool false,.string s2]) (.agg #[.bool m,.string t1,.bool false,.string t2])).run prog w=.ok (.bool r) w:=by
 go_simp
 simp only[Qtk];cases r
 .have hn:¬(n=m/\s1=t1/\s2=t2):=fun h=>by cases hr.2 h
  repeat' split
  all_goals first
   | rfl
   | (exfalso;apply hn;refine⟨?_,?_,?_⟩<;>assumption)
 .obtain⟨rfl,rfl,rfl⟩:=hr.1 rfl;simp
def Kmk(w:World)(p q:Rat)(r:Bool)(hr:r=true↔p=q):(binOp .eql 26 (Qew p) (Qew q)).run prog w=.ok (.bool r) w :=
 Kmj w _ _ _ _ _ _ r (hr.trans ⟨fun h=>by subst h;exact⟨rfl,rfl,rfl⟩,fun h=>Qgk (by unfold Qew;rw[h.1,h.2.1,h.2.2])⟩)
def bF{L:List GF}(x y:AR)(p q:Rat)(r:Bool)(hr:r=true↔p=q)(hx:x.gv L=some (Qew p):=by kernel_rfl)(hy:y.gv L=some (Qew q):=by kernel_rfl):GB prog L :=
 gb .eql 26 x y (.lit (.bool r)) (Qof kR (fun w=>Kmk w p q r hr)) hx hy rfl
def Knl(a b c d:Rat):Value:=.agg #[.bool (decide (a.num<0)),.string (Qcg a.num.natAbs),.bool false,.string (Qcg a.den),.bool (decide (b.num<0)),.string (Qcg b.num.natAbs),.bool false,.string (Qcg b.den),
 .bool (decide (c.num<0)),.string (Qcg c.num.natAbs),.bool false,.string (Qcg c.den),.bool (decide (d.num<0)),.string (Qcg d.num.natAbs),.bool false,.string (Qcg d.den)]
def Qwi(w:World)(a b c d:Rat):(binOp .eql 47 (Knl a b c d) (Knl a b c d)).run prog w=.ok (.bool true) w:=by
 unfold Knl
 go_simp
def bCt{L:List GF}(x y:AR)(a b c d:Rat)(hx:x.gv L=some (Knl a b c d):=by kernel_rfl)(hy:y.gv L=some (Knl a b c d):=by kernel_rfl):GB prog L :=
 gb .eql 47 x y (.lit (.bool true)) (Qof kR (fun w=>Qwi w a b c d)) hx hy rfl
def Qhd{L:List GF}(q:Rat)(x:AC)(hx:AC.lk L x=some (gr q):=by kernel_rfl):GB prog L :=
 ⟨{ op:=.eql,t:=114,x:=.c x,y:=.c (.lit .nilp),res:=.lit (.bool false) },fun σ w A vx vy xo yo h1 h2=>by
  obtain⟨b,rfl,_⟩:=(AC.lk_ok (σ:=σ) (x:=x) hx).1 h1;cases(show vy=.pointer none from h2);exact⟨.bool false,by go_simp,rfl⟩⟩
def Qda{k:Nat}:RL (0:Rat) (k+1):=⟨axw (by decide +kernel:(Qac (0:Rat).num.natAbs).length<=1) (by omega),axw (by decide +kernel:(Qac (0:Rat).den).length<=1) (by omega)⟩
