/- Laws. -/
import Derived.Test.YtcjjdooeogmdbaaGreatVax
set_option linter.all false
set_option maxHeartbeats 4000000
set_option maxRecDepth 100000
open Go.Lib (hid)
namespace Tr
open Go Go.RowKit
section
variable{P:Program}{L:List GF}
def Kja(t:TypeId)(ht:P.underlying t=some .string)(x:AC)(s:ByteArray)(res:AC)(hn:x.noown=true:=by rfl)(hx:x.gv L=some (.string s):=by rfl)(hr:res.gv L=some (.int .i64 (s.size:Nat)):=by rfl):GO P L :=
 Kcd t (.c x) res (fun w A u ty hu=>by
  have e:u=.string s:=(AC.gv_ok (x:=x) hx).1 hu;subst e;simp[Builtin.len_,run_underlying ht,goInt]) (by simpa[AR.noown,AR.cells] using hn) hr
def Qnx{t:TypeId}(h:P.eqGuardType P.depth t=false)(op:BinOp)(xo yo:Operand)(a b:Array Value)(w:World):(eqGuard op t xo yo (.agg a) (.agg b)).run P w=.ok () w:=by
 cases op<;>simp[eqGuard,h]
def Qse{t:TypeId}(h:P.eqGuardType P.depth t=false){a b:Array Value}{r:Bool}(he:∀ w,(binOp .eql t (.agg a) (.agg b)).run P w=.ok (.bool r) w):∀(xo yo:Operand) (w:World),(do eqGuard .eql t xo yo (.agg a) (.agg b);binOp .eql t (.agg a) (.agg b):Sem Value).run P w=.ok (.bool r) w:=by
 intro xo yo w;rw[Sem.run_bind,Qnx h,Result.andThen_ok,he]
def Kqu{t:TypeId}(h:P.eqGuardType P.depth t=false){a b:Array Value}{r:Bool}(he:∀ w,(binOp .eql t (.agg a) (.agg b)).run P w=.ok (.bool r) w):∀(xo yo:Operand) (w:World),(do eqGuard .neq t xo yo (.agg a) (.agg b);binOp .neq t (.agg a) (.agg b):Sem Value).run P w=.ok (.bool !r) w:=by
 intro xo yo w;have e1:binOp .eql t (.agg a) (.agg b)=(do pure (.bool (←Op.equal t (.agg a) (.agg b)))):=rfl;have e2:binOp .neq t (.agg a) (.agg b)=(do pure (.bool (!(←Op.equal t (.agg a) (.agg b))))):=rfl;rw[Sem.run_bind,Qnx h,Result.andThen_ok,e2];have:=he w;rw[e1,Sem.run_bind] at this;rw[Sem.run_bind];cases hq:(Op.equal t (.agg a) (.agg b)).run P w with
 | ok v w' =>
  rw[hq] at this;simp only[Result.andThen_ok,Sem.run_pure,Result.ok.injEq,Value.bool.injEq] at this ⊢;exact⟨by rw[this.1],this.2⟩
 | halt x w'=>rw[hq] at this;cases this
end
end Tr
namespace Go.Proofs.YtcjjdooeogmdbaaGreat
open Go.RowKit Tr Proofs.Tryz
def Ktv(w:World)(n1 m1:Bool)(s1 t1:ByteArray)(r:Bool)(hr:r=true↔Value.agg #[.bool n1,.string s1]=.agg #[.bool m1,.string t1]) :
  (binOp .eql 24 (.agg #[.bool n1,.string s1]) (.agg #[.bool m1,.string t1])).run prog w=.ok (.bool r) w:=by
 simp only[Value.agg.injEq,Array.mk.injEq,List.cons.injEq,Value.bool.injEq,Value.string.injEq,and_true] at hr
 go_simp
 simp only[Qng];cases r
 .have hn:¬(n1=m1/\s1=t1):=fun h=>by cases hr.2 h
  repeat' split
  all_goals first
   | rfl
   | (exfalso;apply hn;refine⟨?_,?_⟩<;>assumption)
 .obtain⟨rfl,rfl⟩:=hr.1 rfl;simp
def Kyl{x y:Int}(h:Qfh x=Qfh y):x=y:=by
 unfold Qfh at h;simp only[Value.agg.injEq,Array.mk.injEq,List.cons.injEq,Value.bool.injEq,Value.string.injEq,and_true] at h;have h2:=Qop h.2
 by_cases hx:x<0<;>by_cases hy:y<0<;>simp[hx,hy] at h<;>omega
def Ulb(n1 n2:Bool)(s1 s2:ByteArray)(r:Bool)(hr:r=decide (s1.size<=1024/\s2.size<=1024)):PureC prog 124 [.agg #[.bool n1,.string s1,.bool n2,.string s2]] (.bool r):=by
 by_cases h1:s1.size<=1024
 .exact Qay (hp:=false) (L:=[gx (.bool n1),gx (.string s1),gx (.bool n2),gx (.string s2),gx (.int .i64 (s1.size:Nat)),gx (.int .i64 (s2.size:Nat)),gx (.bool r)]) Qai Qap []
   [Qlj .leq 3 .i64 (.sym 4) (.lit (.int .i64 1024)) _ _ true (by simp[Qch];omega) rfl rfl,gb .leq 3 (.c (.sym 5)) (.c (.lit (.int .i64 1024))) (.sym 6) (Kfv .leq _ .i64 _ _ r (by simp[Qch,hr,h1];omega)) rfl rfl rfl]
   [Kja 9 Tryz.underlying9 (.sym 1) s1 (.sym 4) rfl rfl rfl,Kja 9 Tryz.underlying9 (.sym 3) s2 (.sym 5) rfl rfl rfl]
   func124 100 [.row [.sym 0,.sym 1,.sym 2,.sym 3]] (.r (.c (.sym 6))) (by kernel_rfl) rfl rfl
 .have hr':r=false:=by rw[hr];simp[h1]
  subst hr';exact Qay (hp:=false) (L:=[gx (.bool n1),gx (.string s1),gx (.bool n2),gx (.string s2),gx (.int .i64 (s1.size:Nat))]) Qai Qap []
   [Qlj .leq 3 .i64 (.sym 4) (.lit (.int .i64 1024)) _ _ false (by simp[Qch];omega) rfl rfl]
   [Kja 9 Tryz.underlying9 (.sym 1) s1 (.sym 4) rfl rfl rfl]
   func124 100 [.row [.sym 0,.sym 1,.sym 2,.sym 3]] (.r (.c (.lit (.bool false)))) (by kernel_rfl) rfl rfl
def Qty{neg:Bool}{s:ByteArray}(h:Qlc neg s):neg=decide (sgn neg (Qgm s)<0)/\s=Qcj (sgn neg (Qgm s)).natAbs:=by
 have:=h.enc;unfold Qfh at this;simpa using this
def Kvc(z:Int):Qlc (decide (z<0)) (Qcj z.natAbs):=by
 refine⟨fun h0=>?_,Qgl _⟩;have h1:=(Qgw (Qgl z.natAbs)).2 h0;rw[Qdq] at h1;simp;omega
def WL.str{n:Nat}{s:ByteArray}{k:Nat}(h:Qgm s=n)(hs:s.size<=k):WL n k:=Nat.le_trans (Qnh h) hs
def Ufl (n1 n2 : Bool) (s1 s2 : ByteArray) (h1 : s1.size ≤ 536870912) (h2 : s2.size ≤ 536870912) (r : Bool) (hr : r = true ↔ ∃ q : Rat,Value.agg #[.bool n1,.string s1,.bool n2,.string s2] = Qgf q) :
    PureC prog 125 [.agg #[.bool n1,.string s1,.bool n2,.string s2]] (.bool r):=by
  by_cases w1:Qlc n1 s1
  · by_cases w2:Qlc n2 s2
    · obtain⟨e1,e2⟩:=Qty w1;obtain⟨e3,e4⟩:=Qty w2;have la:WL (sgn n1 (Qgm s1)).natAbs 536870912:=by rw[Qck];exact WL.str rfl h1
      have lb:WL (sgn n2 (Qgm s2)).natAbs 536870912:=by rw[Qck];exact WL.str rfl h2
      obtain⟨a,ha⟩:∃ a,a=sgn n1 (Qgm s1):=⟨_,rfl⟩
      obtain⟨b,hb⟩:∃ b,b=sgn n2 (Qgm s2):=⟨_,rfl⟩
      rw[<-ha] at e1 e2 la;rw[<-hb] at e3 e4 lb;clear ha hb;subst e1;subst e2;subst e3;subst e4;have hq:(∃ q:Rat,Value.agg #[.bool (decide (a<0)),.string (Qcj a.natAbs),.bool (decide (b<0)),.string (Qcj b.natAbs)]=Qgf q)↔0<b/\Nat.gcd a.natAbs b.natAbs=1:=by
        constructor
        · rintro⟨q,hq⟩;obtain⟨k1,k2,k3,k4⟩:=Qcn hq;have k5:=Qop k4;have k6:=Qop k2;have k7:=q.den_nz;have k8:=q.reduced;have k9:¬b<0:=by simpa using k3
          refine⟨by omega,?_⟩;rw[k5,k6];exact k8
        · rintro⟨k1,k2⟩;refine⟨⟨a,b.natAbs,by omega,k2⟩,?_⟩;unfold Qgf;have:¬b<0:=by omega
          simp[this]
      rw[hq] at hr;have f1:=Qto (decide (a<0)) (Qcj a.natAbs) true (by simp[w1]);have f2:=Qto (decide (b<0)) (Qcj b.natAbs) true (by simp[w2])
      by_cases hb:0<b
      · have ho:=sof 1 (by decide) (by decide);have hg:=Uvn a b la lb;obtain⟨g,hgd⟩:∃ g,g=Nat.gcd a.natAbs b.natAbs:=⟨_,rfl⟩
        rw[<-hgd] at hg hr;exact Qay (hp:=false) (L:=cz a++cz b++cz (g:Int)++cz 1++[gx (.bool r),gx (.int .i64 b.sign)]) Qai Qap
          [gp 198 [.row (zA 0)] (.r (.c (.lit (.bool true)))) eo198 f1 rfl rfl,gp 198 [.row (zA 2)] (.r (.c (.lit (.bool true)))) eo198 f2 rfl rfl,gp 126 [.row (zA 2)] (.r (.c (.sym 9))) eo126 (Kgo b) rfl rfl,gp 181 [.row (zA 0),.row (zA 2)] (.r (.row (zA 4))) eo181 hg rfl rfl,gp 99 [.c (.lit (.int .i64 1))] (.r (.row (zA 6))) eo99 ho rfl rfl]
          [Qlj .leq 3 .i64 (.sym 9) (.lit (.int .i64 0)) _ _ false (by rw[Int.sign_eq_one_of_pos hb];rfl) rfl rfl,gb .eql 24 (.row (zA 4)) (.row (zA 6)) (.sym 8) (Qse (by kernel_rfl) (fun w=>Ktv w _ _ _ _ r (by
             rw[hr];constructor
             · rintro⟨_,h⟩;rw[h];rfl
             · intro h;have:=Kyl (x:=(g:Int)) (y:=1) h;exact⟨hb,by omega⟩))) rfl rfl rfl] []
          func125 100 [.row (zA 0++zA 2)] (.r (.c (.sym 8))) (by kernel_rfl) rfl rfl
      · have hr':r=false:=by cases r;rfl;exact absurd (hr.1 rfl).1 hb
        subst hr';exact Qay (hp:=false) (L:=cz a++cz b++[gx (.int .i64 b.sign)]) Qai Qap
          [gp 198 [.row (zA 0)] (.r (.c (.lit (.bool true)))) eo198 f1 rfl rfl,gp 198 [.row (zA 2)] (.r (.c (.lit (.bool true)))) eo198 f2 rfl rfl,gp 126 [.row (zA 2)] (.r (.c (.sym 4))) eo126 (Kgo b) rfl rfl]
          [Qlj .leq 3 .i64 (.sym 4) (.lit (.int .i64 0)) _ _ true (by
            have:b.sign<=0:=by rcases Int.lt_trichotomy b 0 with h|h|h<;>first|(rw[Int.sign_eq_neg_one_of_neg h];decide)|(subst h;decide)|omega
            simp[Qch,this]) rfl rfl] []
          func125 100 [.row (zA 0++zA 2)] (.r (.c (.lit (.bool false)))) (by kernel_rfl) rfl rfl
    · have hr' : r = false := by
        cases r;rfl;obtain⟨q,e⟩:=hr.1 rfl;obtain⟨k1,k2,k3,k4⟩:=Qcn e;exfalso;apply w2;have:=Kvc (q.den:Int);rw[show decide ((q.den:Int)<0)=false by simp] at this;rw[k3,k4];simpa using this
      subst hr';exact Qay (hp:=false) (L:=[gx (.bool n1),gx (.string s1),gx (.bool n2),gx (.string s2)]) Qai Qap
        [gp 198 [.row (zA 0)] (.r (.c (.lit (.bool true)))) eo198 (Qto n1 s1 true (by simp[w1])) rfl rfl,gp 198 [.row (zA 2)] (.r (.c (.lit (.bool false)))) eo198 (Qto n2 s2 false (by simp[w2])) rfl rfl] [] []
        func125 100 [.row (zA 0++zA 2)] (.r (.c (.lit (.bool false)))) (by kernel_rfl) rfl rfl
  · have hr' : r = false := by
      cases r;rfl;obtain⟨q,e⟩:=hr.1 rfl;obtain⟨k1,k2,k3,k4⟩:=Qcn e;exfalso;apply w1;rw[k1,k2];exact Kvc _
    subst hr';exact Qay (hp:=false) (L:=[gx (.bool n1),gx (.string s1),gx (.bool n2),gx (.string s2)]) Qai Qap
      [gp 198 [.row (zA 0)] (.r (.c (.lit (.bool false)))) eo198 (Qto n1 s1 false (by simp[w1])) rfl rfl] [] []
      func125 100 [.row (zA 0++zA 2)] (.r (.c (.lit (.bool false)))) (by kernel_rfl) rfl rfl
def Uwa (n1 n2 : Bool) (s1 s2 : ByteArray) (r : Bool) (hr : r = true ↔ Qgp (.agg #[.bool n1,.string s1,.bool n2,.string s2])) :
    PureC prog 53 [.agg #[.bool n1,.string s1,.bool n2,.string s2]] (.bool r):=by
  by_cases h:s1.size<=1024/\s2.size<=1024
  · have hf := Ufl n1 n2 s1 s2 (by omega) (by omega) r (by
      rw[hr];constructor
      · rintro⟨q,e,_⟩;exact⟨q,e⟩
      · rintro⟨q,e⟩;obtain⟨k1,k2,k3,k4⟩:=Qcn e;exact⟨q,e,by rw[<-k2];exact h.1,by rw[<-k4];exact h.2⟩)
    exact Qay (hp:=false) (L:=[gx (.bool n1),gx (.string s1),gx (.bool n2),gx (.string s2),gx (.bool r)]) Qai Qap
      [gp 124 [.row (zA 0++zA 2)] (.r (.c (.lit (.bool true)))) eo124 (Ulb n1 n2 s1 s2 true (by simp[h])) rfl rfl,gp 125 [.row (zA 0++zA 2)] (.r (.c (.sym 4))) eo125 hf rfl rfl] [] []
      func53 100 [.row (zA 0++zA 2)] (.r (.c (.sym 4))) (by kernel_rfl) rfl rfl
  · have hr' : r = false := by
      cases r;rfl;obtain⟨q,e,k⟩:=hr.1 rfl;obtain⟨k1,k2,k3,k4⟩:=Qcn e;exfalso;apply h;rw[k2,k4];exact k
    subst hr';exact Qay (hp:=false) (L:=[gx (.bool n1),gx (.string s1),gx (.bool n2),gx (.string s2)]) Qai Qap
      [gp 124 [.row (zA 0++zA 2)] (.r (.c (.lit (.bool false)))) eo124 (Ulb n1 n2 s1 s2 false (by simp[h])) rfl rfl] [] []
      func53 100 [.row (zA 0++zA 2)] (.r (.c (.lit (.bool false)))) (by kernel_rfl) rfl rfl
def Kxz(base:Nat)(q:Rat):Qcp:=fun v w A=>∃ m C,v=.pointer (some ⟨m,0,none⟩)/\base<=m/\¬A m/\w.heap[m]?=some (.cells C 180 (0,0))/\C.size=4/\NoW (.cells C 180 (0,0))/\Qbl q v w A
def Kxz.keeps(base:Nat)(q:Rat):(Kxz base q).Keeps:=by
 intro v w w' A A' hs hk ⟨m,C,h1,h2,h3,h4,h5,h6,h7⟩;obtain⟨k1,k2⟩:=hk m (Array.getElem?_eq_some_iff.1 h4).1 h3;exact⟨m,C,h1,h2,k2,k1.trans h4,h5,h6,Qbl.keeps q _ _ _ _ _ hs hk h7⟩
def Qml.ratB{m base:Nat}{q:Rat}{w w':World}(h:Qml m q w w'){A0 A:Nat->Prop}(hA0:Rcv A0 w)(hA:Rcv A w)(hm:base<=m)(h0:∀ b,A0 b->b<base):Qbd A0 (Kxz base q) (.pointer (some ⟨m,0,none⟩)) w' (fun b=>A b/\b≠m):=by
 have hr:=h.ratU hA0 hA hm h0;obtain⟨_,s1,s2,h2,h3,h4⟩:=h;refine⟨m,_,rfl,hm,?_,h2,rfl,?_,hr⟩
 .rintro(h|h)
  .exact h.2 rfl
  .have:=h0 m h;omega
 .obtain⟨p1,c1,rfl,_⟩:=h3;obtain⟨p2,c2,rfl,_⟩:=h4;intro cs T fr e i k x;cases e;rcases i with _|_|_|_|i<;>simp
def CP(a b:Rat):Qcp:=fun v w A=>∃ u1 u2,v=.agg #[u1,u2]/\Qbl a u1 w A/\Qbl b u2 w A
def CP.keeps(a b:Rat):(CP a b).Keeps:=fun v w w' A A' hs hk ⟨u1,u2,h1,h2,h3⟩=>⟨u1,u2,h1,Qbl.keeps a _ _ _ _ _ hs hk h2,Qbl.keeps b _ _ _ _ _ hs hk h3⟩
def CP.below{a b:Rat}{v:Value}{w w':World}{A:Nat->Prop}(h:CP a b v w A)(hb:Below w.heap.size w w'):CP a b v w' A:=Qcp.Keeps.below (CP.keeps a b) hb h
def Qjz{X:World}{o:Obj}{n i:Nat}(h:n<X.heap.size):(X.alloc o).cell? ⟨n,i,none⟩=X.cell? ⟨n,i,none⟩ :=
 ((Below.refl X.heap.size X).alloc lr o).cell (p:=⟨n,i,none⟩) h
def Qlo(X:World)(a:Addr)(v:Value):(X.setCell a v).heap.size=X.heap.size:=by simp[World.setCell]
def Kew(a b:Rat):Value:=.agg #[.bool (decide (a.num<0)),.string (Qcj a.num.natAbs),.bool false,.string (Qcj a.den),.bool (decide (b.num<0)),.string (Qcj b.num.natAbs),.bool false,.string (Qcj b.den)]
def Qtb(w:World)(x0 x1 x2 x3 x4 x5 x6 x7:Value)(T:TypeId){w1:World}(h:Below (w.alloc (.cells #[x0,x1,x2,x3,x4,x5,x6,x7] T)).heap.size (w.alloc (.cells #[x0,x1,x2,x3,x4,x5,x6,x7] T)) w1) :
  w1.cell? ⟨w.heap.size,0,none⟩=some x0/\w1.cell? ⟨w.heap.size,1,none⟩=some x1/\w1.cell? ⟨w.heap.size,2,none⟩=some x2/\w1.cell? ⟨w.heap.size,3,none⟩=some x3/\w1.cell? ⟨w.heap.size,4,none⟩=some x4/\w1.cell? ⟨w.heap.size,5,none⟩=some x5/\w1.cell? ⟨w.heap.size,6,none⟩=some x6/\w1.cell? ⟨w.heap.size,7,none⟩=some x7:=by
 have e:=(h.block w.heap.size (by simp)).trans (heap_alloc_new w _);simp[World.cell?,e]
def Qqn(w:World)(x0 x1 x2 x3 x4 x5 x6 x7:Value)(T:TypeId){w1:World}(h:Below (w.alloc (.cells #[x0,x1,x2,x3,x4,x5,x6,x7] T)).heap.size (w.alloc (.cells #[x0,x1,x2,x3,x4,x5,x6,x7] T)) w1) :
  w1.frozen? ⟨w.heap.size,0,none⟩=false/\w1.frozen? ⟨w.heap.size,1,none⟩=false/\w1.frozen? ⟨w.heap.size,2,none⟩=false/\w1.frozen? ⟨w.heap.size,3,none⟩=false/\w1.frozen? ⟨w.heap.size,4,none⟩=false/\w1.frozen? ⟨w.heap.size,5,none⟩=false/\w1.frozen? ⟨w.heap.size,6,none⟩=false/\w1.frozen? ⟨w.heap.size,7,none⟩=false:=by
 have e:=(h.block w.heap.size (by simp)).trans (heap_alloc_new w _);simp[World.frozen?,e]
def Kxq(i j:Int)(hi0:-9223372036854775808<=i)(hi1:i<9223372036854775808)(hj0:-9223372036854775808<=j)(hj1:j<9223372036854775808)(w:World) :
  Calls prog 89 #[.int .i64 i,.int .i64 j] w fun e w'=>e=.returned (Kew i j)/\Below w.heap.size w w':=by
 have hal:Below w.heap.size w (w.alloc (.cells #[.bool false,.string ⟨#[]⟩,.bool false,.string ⟨#[]⟩,.bool false,.string ⟨#[]⟩,.bool false,.string ⟨#[]⟩] 28)):=br.alloc lr _;have H1:=hid (fun w=>Kia i hi0 hi1 w);have H2:=hid (fun w=>Kia j hj0 hj1 w);obtain⟨b1,t1,t2,he1⟩:=Qyd (i:Rat);obtain⟨b2,t3,t4,he2⟩:=Qyd (j:Rat);have HE:=hid (show Kew i j=.agg #[.bool b1,.string t1,.bool false,.string t2,.bool b2,.string t3,.bool false,.string t4] by
  unfold Qgf at he1 he2;simp only[Value.agg.injEq,Array.mk.injEq,List.cons.injEq,Value.bool.injEq,Value.string.injEq,and_true] at he1 he2;unfold Kew;rw[he1.1,he1.2.1,he1.2.2.2,he2.1,he2.2.1,he2.2.2.2])
 rw[he1] at H1;rw[he2] at H2;have HA:=hid hal;clear he1 he2 hal
 go_enter func89,Tryz.ntmps89
 go_wp2_with fail
 refine(H1.out _).mono ?_;rintro e w1 ⟨rfl,hb1⟩
 go_wp2_with fail
 refine(H2.out _).mono ?_;rintro e w2 ⟨rfl,hb2⟩;have hb12:=hb1.trans (hb2.mono hb1.size);obtain⟨c0,c1,c2,c3,c4,c5,c6,c7⟩:=Qtb w _ _ _ _ _ _ _ _ _ hb12;obtain⟨f0,f1,f2,f3,f4,f5,f6,f7⟩:=Qqn w _ _ _ _ _ _ _ _ _ hb12;have HB:=hid (HA.out.trans (hb12.mono (by simp)));clear hb1 hb2 hb12
 go_wp2_with fail
 refine bodyPost_ret (v:=.agg #[.bool b1,.string t1,.bool false,.string t2,.bool b2,.string t3,.bool false,.string t4]) (by simp[results,Tryz.results89,go_sem,c0,c1,c2,c3,c4,c5,c6,c7]) rfl ⟨by rw[HE.out],?_⟩;exact((((((((HB.out.setCell (p:=⟨w.heap.size,0,none⟩) lr _).setCell (p:=⟨w.heap.size,1,none⟩) lr _).setCell (p:=⟨w.heap.size,2,none⟩) lr _).setCell (p:=⟨w.heap.size,3,none⟩) lr _).setCell (p:=⟨w.heap.size,4,none⟩) lr _).setCell (p:=⟨w.heap.size,5,none⟩) lr _).setCell (p:=⟨w.heap.size,6,none⟩) lr _).setCell (p:=⟨w.heap.size,7,none⟩) lr _)
open Classical in
noncomputable def okB(n1 n2:Bool)(s1 s2:ByteArray):Bool:=decide (Qgp (.agg #[.bool n1,.string s1,.bool n2,.string s2]))
def Qyo{n1 n2:Bool}{s1 s2:ByteArray}:okB n1 n2 s1 s2=true↔Qgp (.agg #[.bool n1,.string s1,.bool n2,.string s2]):=by unfold okB;simp
def Kxr(n1 n2 n3 n4:Bool)(s1 s2 s3 s4:ByteArray)(l1:s1.size<274877906944)(l2:s2.size<274877906944)(l3:s3.size<274877906944)(l4:s4.size<274877906944)(w:World) :
  Calls prog 258 #[.agg #[.bool n1,.string s1,.bool n2,.string s2,.bool n3,.string s3,.bool n4,.string s4]] w fun e w'=>e=.returned (.bool (okB n1 n2 s1 s2&&okB n3 n4 s3 s4))/\Below w.heap.size w w':=by
 have H1:=hid (fun w=>Kfb n1 n2 s1 s2 l1 l2 _ Qyo w);have H2:=hid (fun w=>Kfb n3 n4 s3 s4 l3 l4 _ Qyo w);have HA:=hid (show Below w.heap.size w (w.alloc (.cells #[.bool n1,.string s1,.bool n2,.string s2,.bool n3,.string s3,.bool n4,.string s4] 28)) from br.alloc lr _)
 go_enter func258,Tryz.ntmps258
 go_wp2_with fail
 refine(H1.out _).mono ?_;rintro e w1 ⟨rfl,hb1⟩;obtain⟨e0,e1,e2,e3,e4,e5,e6,e7⟩:=Qtb w _ _ _ _ _ _ _ _ _ hb1;cases c1:okB n1 n2 s1 s2
 .have HB:=hid (HA.out.trans (hb1.mono (by simp)));clear hb1
  go_wp2
  all_goals go_ret
  all_goals exact⟨by rw[c1];rfl,HB.out⟩
 .go_wp2_with fail
  refine(H2.out _).mono ?_;rintro e w2 ⟨rfl,hb2⟩;have HB:=hid (HA.out.trans ((hb1.trans (hb2.mono hb1.size)).mono (by simp)));clear hb1 hb2;obtain⟨c2,hc2⟩:∃ c2,c2=okB n3 n4 s3 s4:=⟨_,rfl⟩
  rw[<-hc2];have HC:=hid hc2;clear hc2
  go_wp2
  all_goals go_ret
  all_goals exact⟨by rw[c1,<-HC.out];cases c2<;>rfl,HB.out⟩
def zG:Value:=.agg #[.bool false,.string ⟨#[]⟩,.bool false,.string ⟨#[]⟩,.bool false,.string ⟨#[]⟩,.bool false,.string ⟨#[]⟩]
def Kzm(a b:Rat):Value:=if Qar a/\Qar b then Kew a b else zG
def Qyq(a b:Rat):Int:=if Qar a/\Qar b then 0 else 4
def Kcs(q:Rat):∃ b1 t1 b2 t2,Kpm q=.agg #[.bool b1,.string t1,.bool b2,.string t2]:=by
 unfold Kpm
 split
 .exact⟨_,_,_,_,rfl⟩
 .exact⟨_,_,_,_,rfl⟩
def Kcr{q:Rat}:Ktc q=0↔Qar q:=by unfold Ktc;split<;>simp[*]
def Ugo{a b:Rat}(ha:Qar a)(hb:Qar b){b1 b2 b3 b4:Bool}{t1 t2 t3 t4:ByteArray}(e1:Kpm a=.agg #[.bool b1,.string t1,.bool b2,.string t2])(e2:Kpm b=.agg #[.bool b3,.string t3,.bool b4,.string t4]):Kzm a b=.agg #[.bool b1,.string t1,.bool b2,.string t2,.bool b3,.string t3,.bool b4,.string t4]:=by
 unfold Kpm at e1 e2;rw[if_pos ha] at e1;rw[if_pos hb] at e2;unfold Qgf at e1 e2;simp only[Value.agg.injEq,Array.mk.injEq,List.cons.injEq,Value.bool.injEq,Value.string.injEq,and_true] at e1 e2;unfold Kzm;rw[if_pos ⟨ha,hb⟩];unfold Kew;rw[e1.1,e1.2.1,e1.2.2.1,e1.2.2.2,e2.1,e2.2.1,e2.2.2.2];rw[e1.2.2.1] at e2;rw[e2.2.2.1]
def PP(a b c d:Rat):Qcp:=fun v w A=>∃ u1 u2 u3 u4,v=.agg #[u1,u2,u3,u4]/\Qbl a u1 w A/\Qbl b u2 w A/\Qbl c u3 w A/\Qbl d u4 w A
def PP.keeps(a b c d:Rat):(PP a b c d).Keeps:=fun v w w' A A' hs hk ⟨u1,u2,u3,u4,h0,h1,h2,h3,h4⟩=>⟨u1,u2,u3,u4,h0,Qbl.keeps a _ _ _ _ _ hs hk h1,Qbl.keeps b _ _ _ _ _ hs hk h2,Qbl.keeps c _ _ _ _ _ hs hk h3,Qbl.keeps d _ _ _ _ _ hs hk h4⟩
structure QC where
 re:Rat
 im:Rat
 deriving DecidableEq
namespace QC
instance:Mul QC:=⟨fun x y=>⟨x.re*y.re-x.im*y.im,x.re*y.im+x.im*y.re⟩⟩
instance:Add QC:=⟨fun x y=>⟨x.re+y.re,x.im+y.im⟩⟩
instance:Sub QC:=⟨fun x y=>⟨x.re-y.re,x.im-y.im⟩⟩
end QC
def ZL(z:QC)(k:Nat):Prop:=RL z.re k/\RL z.im k
def ZL.mono{z:QC}{k l:Nat}(h:ZL z k)(hl:k<=l):ZL z l:=⟨h.1.mono hl,h.2.mono hl⟩
def Qcb{x y:QC}{k l:Nat}(hx:ZL x k)(hy:ZL y l):ZL (x*y) (k+l+(k+l)+1):=⟨Qdc (Qam hx.1 hy.1) (Qam hx.2 hy.2),Qca (Qam hx.1 hy.2) (Qam hx.2 hy.1)⟩
def Qmq{x y:QC}{k l:Nat}(hx:ZL x k)(hy:ZL y l):ZL (x+y) (k+l+1):=⟨Qca hx.1 hy.1,Qca hx.2 hy.2⟩
def Qbi{x y:QC}{k l:Nat}(hx:ZL x k)(hy:ZL y l):ZL (x-y) (k+l+1):=⟨Qdc hx.1 hy.1,Qdc hx.2 hy.2⟩
def CQ(z:QC):Qcp:=CP z.re z.im
def CQ.keeps(z:QC):(CQ z).Keeps:=CP.keeps _ _
def PQ(x y:QC):Qcp:=PP x.re x.im y.re y.im
def PQ.keeps(x y:QC):(PQ x y).Keeps:=PP.keeps _ _ _ _
end Go.Proofs.YtcjjdooeogmdbaaGreat
namespace Go.Proofs.YtcjjdooeogmdbaaGreat
open Go.RowKit Tr Proofs.Tryz
def Kbd(w:World):Calls prog 257 #[] w fun e w'=>e=.returned (.agg #[.bool true,.bool false,.string ⟨#[]⟩,.bool false,.string ⟨#[]⟩,.bool false,.string ⟨#[]⟩,.bool false,.string ⟨#[]⟩])/\Below w.heap.size w w':=by
 have HB:=hid (show Below w.heap.size w (w.alloc (.cells #[.bool true,.bool false,.string ⟨#[]⟩,.bool false,.string ⟨#[]⟩,.bool false,.string ⟨#[]⟩,.bool false,.string ⟨#[]⟩] 59)) from br.alloc lr _)
 go_enter func257,Tryz.ntmps257
 go_wp2_with fail
 refine bodyPost_ret (v:=.agg #[.bool true,.bool false,.string ⟨#[]⟩,.bool false,.string ⟨#[]⟩,.bool false,.string ⟨#[]⟩,.bool false,.string ⟨#[]⟩]) (by simp[results,Tryz.results257,go_sem]) rfl ⟨rfl,?_⟩;exact HB.out
def Qjs(a:Rat):0<=a*a:=by
 rcases Rat.nonneg_total a with h|h
 .exact Rat.mul_nonneg h h
 .have:=Rat.mul_nonneg h h;rwa[Rat.neg_mul,Rat.mul_neg,Rat.neg_neg] at this
def Kuk{a b:Rat}(h:a*a+b*b=0):a=0:=by
 have h1:-(a*a)=b*b:=by
  have:-(a*a)+(a*a+b*b)=-(a*a)+0:=by rw[h]
  rw[<-Rat.add_assoc,Rat.neg_add_cancel,Rat.zero_add,Rat.add_zero] at this;exact this.symm
 have h2:=Rat.nonneg_antisymm (Qjs a) (by rw[h1];exact Qjs b);rcases Rat.mul_eq_zero.1 h2 with h|h<;>exact h
def Ksz{a b:Rat}:a*a+b*b=0↔a=0/\b=0:=by
 constructor
 .intro h;exact⟨Kuk h,Kuk (by rw[Rat.add_comm];exact h)⟩
 .rintro⟨rfl,rfl⟩;decide +kernel
instance:Div QC:=⟨fun x y=>⟨(x.re*y.re-x.im*(-y.im))*(y.re*y.re+y.im*y.im)⁻¹,(x.re*(-y.im)+x.im*y.re)*(y.re*y.re+y.im*y.im)⁻¹⟩⟩
def Ukg{x y:QC}{k l:Nat}(h0:y.re*y.re+y.im*y.im≠0)(hx:ZL x k)(hy:ZL y l):ZL (x/y) (k+l+(k+l)+1+(l+l+(l+l)+1)):=by
 have li:RL (y.re*y.re+y.im*y.im)⁻¹ (l+l+(l+l)+1):=Qdn h0 (Qca (Qam hy.1 hy.1) (Qam hy.2 hy.2));exact⟨Qam (Qdc (Qam hx.1 hy.1) (Qam hx.2 (Qbq hy.2))) li,Qam (Qca (Qam hx.1 (Qbq hy.2)) (Qam hx.2 hy.1)) li⟩
def Ujf:Value:=.agg #[.bool true,.bool false,.string ⟨#[]⟩,.bool false,.string ⟨#[]⟩,.bool false,.string ⟨#[]⟩,.bool false,.string ⟨#[]⟩]
def Kfl(z:QC):Value:=.agg #[.bool false,.bool (decide (z.re.num<0)),.string (Qcj z.re.num.natAbs),.bool false,.string (Qcj z.re.den),.bool (decide (z.im.num<0)),.string (Qcj z.im.num.natAbs),.bool false,.string (Qcj z.im.den)]
def Kzk(w:World)(x0 x1 x2 x3 x4 x5 x6 x7 x8:Value)(T:TypeId){w1:World}(h:Below (w.alloc (.cells #[x0,x1,x2,x3,x4,x5,x6,x7,x8] T)).heap.size (w.alloc (.cells #[x0,x1,x2,x3,x4,x5,x6,x7,x8] T)) w1) :
  (w1.cell? ⟨w.heap.size,0,none⟩=some x0/\w1.cell? ⟨w.heap.size,1,none⟩=some x1/\w1.cell? ⟨w.heap.size,2,none⟩=some x2/\w1.cell? ⟨w.heap.size,3,none⟩=some x3/\w1.cell? ⟨w.heap.size,4,none⟩=some x4/\w1.cell? ⟨w.heap.size,5,none⟩=some x5/\w1.cell? ⟨w.heap.size,6,none⟩=some x6/\w1.cell? ⟨w.heap.size,7,none⟩=some x7/\w1.cell? ⟨w.heap.size,8,none⟩=some x8) /\
  w1.frozen? ⟨w.heap.size,0,none⟩=false/\w1.frozen? ⟨w.heap.size,1,none⟩=false/\w1.frozen? ⟨w.heap.size,2,none⟩=false/\w1.frozen? ⟨w.heap.size,3,none⟩=false/\w1.frozen? ⟨w.heap.size,4,none⟩=false/\w1.frozen? ⟨w.heap.size,5,none⟩=false/\w1.frozen? ⟨w.heap.size,6,none⟩=false/\w1.frozen? ⟨w.heap.size,7,none⟩=false/\w1.frozen? ⟨w.heap.size,8,none⟩=false:=by
 have e:=(h.block w.heap.size (by simp)).trans (heap_alloc_new w _);simp[World.cell?,World.frozen?,e]
def Kbq(z:QC):Value:=Kew z.re z.im
abbrev Pt:=Option QC
def Uvz:Pt->Value
 | none=>Ujf
 | some z=>Kfl z
def Qac(z:QC):Prop:=Qar z.re/\Qar z.im
def Kqp:Pt->Prop
 | none=>True
 | some z=>Qac z
def Qaf{q:Rat}(h:Qar q):RL q 1024:=by
 refine⟨?_,?_⟩
 .exact Nat.le_trans (Qnh (Qdq _)) h.1
 .exact Nat.le_trans (Qnh (Qdq _)) h.2
def Qaa{z:QC}(h:Qac z):ZL z 1024:=⟨Qaf h.1,Qaf h.2⟩
end Go.Proofs.YtcjjdooeogmdbaaGreat
namespace Tr
open Go Go.RowKit Go.Proofs.YtcjjdooeogmdbaaGreat
def ZL.r{z:QC}{k:Nat}(h:ZL z k):RL z.re k:=h.1
def ZL.i{z:QC}{k:Nat}(h:ZL z k):RL z.im k:=h.2
end Tr
namespace Go.Proofs.YtcjjdooeogmdbaaGreat
open Go.RowKit Tr Proofs.Tryz
structure Qeb where
 (n1 n2 n3 n4:Bool)
 (s1 s2 s3 s4:ByteArray)
def Qeb.val(g:Qeb):Value:=.agg #[.bool g.n1,.string g.s1,.bool g.n2,.string g.s2,.bool g.n3,.string g.s3,.bool g.n4,.string g.s4]
def Qeb.cells(g:Qeb):List GF:=[gx (.bool g.n1),gx (.string g.s1),gx (.bool g.n2),gx (.string g.s2),gx (.bool g.n3),gx (.string g.s3),gx (.bool g.n4),gx (.string g.s4)]
structure Quy where
 i:Bool
 g:Qeb
def Quy.val(p:Quy):Value:=.agg #[.bool p.i,.bool p.g.n1,.string p.g.s1,.bool p.g.n2,.string p.g.s2,.bool p.g.n3,.string p.g.s3,.bool p.g.n4,.string p.g.s4]
def Quy.cells(p:Quy):List GF:=gx (.bool p.i)::p.g.cells
def gA(i:Nat):List AC:=[.sym i,.sym (i+1),.sym (i+2),.sym (i+3),.sym (i+4),.sym (i+5),.sym (i+6),.sym (i+7)]
def pA(i:Nat):List AC:=[.sym i,.sym (i+1),.sym (i+2),.sym (i+3),.sym (i+4),.sym (i+5),.sym (i+6),.sym (i+7),.sym (i+8)]
def cG(z:QC):List GF:=cF z.re++cF z.im
def GOk(v:Value):Prop:=∃ z:QC,v=Kbq z/\Qac z
def POk(v:Value):Prop:=∃ p:Pt,v=Uvz p/\Kqp p
def Ksb(g:Qeb):GOk g.val↔Qgp (.agg #[.bool g.n1,.string g.s1,.bool g.n2,.string g.s2])/\Qgp (.agg #[.bool g.n3,.string g.s3,.bool g.n4,.string g.s4]):=by
 constructor
 .rintro⟨z,e,h1,h2⟩;unfold Qeb.val Kbq Kew at e;simp only[Value.agg.injEq,Array.mk.injEq,List.cons.injEq,Value.bool.injEq,Value.string.injEq,and_true] at e;obtain⟨e1,e2,e3,e4,e5,e6,e7,e8⟩:=e;exact⟨⟨z.re,by unfold Qgf;rw[e1,e2,e3,e4],h1⟩,⟨z.im,by unfold Qgf;rw[e5,e6,e7,e8],h2⟩⟩
 .rintro⟨⟨a,e,h1⟩,⟨b,f,h2⟩⟩;obtain⟨e1,e2,e3,e4⟩:=Qcn e;obtain⟨f1,f2,f3,f4⟩:=Qcn f;refine⟨⟨a,b⟩,?_,h1,h2⟩;unfold Qeb.val Kbq Kew;rw[e1,e2,e3,e4,f1,f2,f3,f4]
def Ugt{p:Quy}(h:p.i=false):POk p.val↔GOk p.g.val:=by
 constructor
 .rintro⟨q,e,hs⟩;cases q with
  | none =>
   have e':p.val=Ujf:=e;unfold Quy.val Ujf at e';simp[h] at e'
  | some z =>
   have e':p.val=Kfl z:=e;refine⟨z,?_,hs⟩;unfold Quy.val Kfl at e';unfold Qeb.val Kbq Kew;simp only[Value.agg.injEq,Array.mk.injEq,List.cons.injEq,Value.bool.injEq,Value.string.injEq,and_true] at e' ⊢;exact e'.2
 .rintro⟨z,e,hs⟩;refine⟨some z,?_,hs⟩;show p.val=Kfl z;unfold Quy.val Kfl;unfold Qeb.val Kbq Kew at e;simp only[Value.agg.injEq,Array.mk.injEq,List.cons.injEq,Value.bool.injEq,Value.string.injEq,and_true] at e ⊢;exact⟨h,e⟩
def Ugs{p:Quy}(h:p.i=true):POk p.val↔p.val=Ujf:=by
 constructor
 .rintro⟨q,e,hs⟩;cases q with
  | none=>exact e
  | some z =>
   have e':p.val=Kfl z:=e;unfold Quy.val Kfl at e';simp[h] at e'
 .intro e;exact⟨none,e,trivial⟩
def Koj(w:World)(p q:Quy)(r:Bool)(hr:r=true↔p.val=q.val):(binOp .eql 59 p.val q.val).run prog w=.ok (.bool r) w:=by
 obtain⟨i,n1,n2,n3,n4,s1,s2,s3,s4⟩:=p;obtain⟨j,m1,m2,m3,m4,t1,t2,t3,t4⟩:=q;simp only[Quy.val] at hr ⊢;simp only[Value.agg.injEq,Array.mk.injEq,List.cons.injEq,Value.bool.injEq,Value.string.injEq,and_true] at hr
 go_simp
 simp only[Qng];cases r
 .have hn:¬(i=j/\n1=m1/\s1=t1/\n2=m2/\s2=t2/\n3=m3/\s3=t3/\n4=m4/\s4=t4):=fun h=>by cases hr.2 h
  repeat' split
  all_goals first
   | rfl
   | (exfalso;apply hn;refine⟨?_,?_,?_,?_,?_,?_,?_,?_,?_⟩<;>assumption)
 .obtain⟨rfl,rfl,rfl,rfl,rfl,rfl,rfl,rfl,rfl⟩:=hr.1 rfl;simp
def Qwy(w:World)(p q:Qeb)(r:Bool)(hr:r=true↔p.val=q.val):(binOp .eql 28 p.val q.val).run prog w=.ok (.bool r) w:=by
 obtain⟨n1,n2,n3,n4,s1,s2,s3,s4⟩:=p;obtain⟨m1,m2,m3,m4,t1,t2,t3,t4⟩:=q;simp only[Qeb.val] at hr ⊢;simp only[Value.agg.injEq,Array.mk.injEq,List.cons.injEq,Value.bool.injEq,Value.string.injEq,and_true] at hr
 go_simp
 simp only[Qng];cases r
 .have hn:¬(n1=m1/\s1=t1/\n2=m2/\s2=t2/\n3=m3/\s3=t3/\n4=m4/\s4=t4):=fun h=>by cases hr.2 h
  repeat' split
  all_goals first
   | rfl
   | (exfalso;apply hn;refine⟨?_,?_,?_,?_,?_,?_,?_,?_⟩<;>assumption)
 .obtain⟨rfl,rfl,rfl,rfl,rfl,rfl,rfl,rfl⟩:=hr.1 rfl;simp
def Qah(z:QC):Qeb:=⟨decide (z.re.num<0),false,decide (z.im.num<0),false,Qcj z.re.num.natAbs,Qcj z.re.den,Qcj z.im.num.natAbs,Qcj z.im.den⟩
def Qkj(z:QC):(Qah z).val=Kbq z:=rfl
def Qtm:Pt->Quy
 | none=>⟨true,⟨false,false,false,false,⟨#[]⟩,⟨#[]⟩,⟨#[]⟩,⟨#[]⟩⟩⟩
 | some z=>⟨false,Qah z⟩
def Ktm(p:Pt):(Qtm p).val=Uvz p:=by cases p<;>rfl
def Qnu{x y:Rat}(h:Qgf x=Qgf y):x=y:=by
 have:=h;unfold Qgf at h;simp only[Value.agg.injEq,Array.mk.injEq,List.cons.injEq,Value.bool.injEq,Value.string.injEq,and_true,true_and] at h;obtain⟨h1,h2,h3⟩:=h;have e2:=Qop h2;have e3:=Qop h3;refine Rat.ext ?_ e3
 by_cases hx:x.num<0<;>by_cases hy:y.num<0<;>simp[hx,hy] at h1<;>omega
def Kbr{x y:QC}(h:Kbq x=Kbq y):x=y:=by
 unfold Kbq Kew at h;simp only[Value.agg.injEq,Array.mk.injEq,List.cons.injEq,Value.bool.injEq,Value.string.injEq,and_true,true_and] at h;obtain⟨h1,h2,h3,h4,h5,h6⟩:=h;have e1:x.re=y.re:=Qnu (by unfold Qgf;rw[h1,h2,h3]);have e2:x.im=y.im:=Qnu (by unfold Qgf;rw[h4,h5,h6]);cases x;cases y;simp_all
def Uyc(a b:Int)(a1:-9223372036854775808<=a:=by decide)(a2:a<9223372036854775808:=by decide)(b1:-9223372036854775808<=b:=by decide)(b2:b<9223372036854775808:=by decide):PureC prog 86 [.int .i64 (a),.int .i64 (b)] ((Kbq (⟨(a:Rat),(b:Rat)⟩))):=by
  exact Qay (hp:=false) (L:=[gx (.int .i64 (a))]++[gx (.int .i64 (b))]++cG (⟨(a:Rat),(b:Rat)⟩)) Qai Qap
    [gp 38 [.c (.sym 0)] (.r (.row [.sym 2,.sym 3,.lit (.bool false),.sym 4])) eo38 (Usg a a1 a2) rfl rfl,gp 38 [.c (.sym 1)] (.r (.row [.sym 5,.sym 6,.lit (.bool false),.sym 7])) eo38 (Usg b b1 b2) rfl rfl]
    [] []
    func86 100 [.c (.sym 0),.c (.sym 1)] (.r (.row [.sym 2,.sym 3,.lit (.bool false),.sym 4,.sym 5,.sym 6,.lit (.bool false),.sym 7])) (by kernel_rfl) rfl rfl
def Uyd(g:Qeb)(r:Bool)(hr:r=true↔GOk g.val):PureC prog 54 [g.val] (.bool r):=by
  rw[Ksb] at hr;obtain⟨a,ha⟩:∃ a:Bool,a=true↔Qgp (.agg #[.bool g.n1,.string g.s1,.bool g.n2,.string g.s2]):=by
    by_cases h:Qgp (.agg #[.bool g.n1,.string g.s1,.bool g.n2,.string g.s2])
    · exact⟨true,by simp[h]⟩
    · exact⟨false,by simp[h]⟩
  have h1:=Uwa g.n1 g.n2 g.s1 g.s2 a ha;cases a
  · have hr':r=false:=by cases r;rfl;have:=ha.2 (hr.1 rfl).1;cases this
    subst hr';exact Qay (hp:=false) (L:=g.cells) Qai Qap
      [gp 53 [.row (zA 0++zA 2)] (.r (.c (.lit (.bool false)))) eo53 h1 rfl rfl] [] []
      func54 100 [.row (gA 0)] (.r (.c (.lit (.bool false)))) (by kernel_rfl) rfl rfl
  · have h2:=Uwa g.n3 g.n4 g.s3 g.s4 r (by rw[hr];exact⟨fun h=>h.2,fun h=>⟨ha.1 rfl,h⟩⟩);exact Qay (hp:=false) (L:=g.cells++[gx (.bool r)]) Qai Qap
      [gp 53 [.row (zA 0++zA 2)] (.r (.c (.lit (.bool true)))) eo53 h1 rfl rfl,gp 53 [.row (zA 4++zA 6)] (.r (.c (.sym 8))) eo53 h2 rfl rfl] [] []
      func54 100 [.row (gA 0)] (.r (.c (.sym 8))) (by kernel_rfl) rfl rfl
def Uye(z:QC):PureC prog 96 [Kbq z] (Kbq ⟨-z.re,-z.im⟩) :=
  Qay (hp:=false) (L:=cG z++cG ⟨-z.re,-z.im⟩) Qai Qap
    [gp 137 [.row [.sym 0,.sym 1,.lit (.bool false),.sym 2]] (.r (.row [.sym 6,.sym 7,.lit (.bool false),.sym 8])) eo137 (Ule z.re) rfl rfl,gp 137 [.row [.sym 3,.sym 4,.lit (.bool false),.sym 5]] (.r (.row [.sym 9,.sym 10,.lit (.bool false),.sym 11])) eo137 (Ule z.im) rfl rfl] [] []
    func96 100 [.row [.sym 0,.sym 1,.lit (.bool false),.sym 2,.sym 3,.sym 4,.lit (.bool false),.sym 5]] (.r (.row [.sym 6,.sym 7,.lit (.bool false),.sym 8,.sym 9,.sym 10,.lit (.bool false),.sym 11])) (by kernel_rfl) rfl rfl
def Utv(z:QC):PureC prog 97 [Kbq z] (Kbq ⟨z.re,-z.im⟩) :=
 Qay (hp:=false) (L:=cG z++cF (-z.im)) Qai Qap
  [gp 137 [.row [.sym 3,.sym 4,.lit (.bool false),.sym 5]] (.r (.row [.sym 6,.sym 7,.lit (.bool false),.sym 8])) eo137 (Ule z.im) rfl rfl] [] []
  func97 100 [.row [.sym 0,.sym 1,.lit (.bool false),.sym 2,.sym 3,.sym 4,.lit (.bool false),.sym 5]] (.r (.row [.sym 0,.sym 1,.lit (.bool false),.sym 2,.sym 6,.sym 7,.lit (.bool false),.sym 8])) (by kernel_rfl) rfl rfl
def Uyb(x y:QC)(hx:ZL x 33554432)(hy:ZL y 33554432):PureC prog 178 [Kbq (x),Kbq (y)] ((Qgf (x.re*y.re+x.im*y.im))):=by
  exact Qay (hp:=false) (L:=cG (x)++cG (y)++cF (x.re*y.re)++cF (x.im*y.im)++cF (x.re*y.re+x.im*y.im)) Qai Qap
    [gp 81 [.row [.sym 0,.sym 1,.lit (.bool false),.sym 2],.row [.sym 6,.sym 7,.lit (.bool false),.sym 8]] (.r (.row [.sym 12,.sym 13,.lit (.bool false),.sym 14])) eo81 (Ksa _ _ (hx.1.mono (by decide)) (hy.1.mono (by decide))) rfl rfl,gp 81 [.row [.sym 3,.sym 4,.lit (.bool false),.sym 5],.row [.sym 9,.sym 10,.lit (.bool false),.sym 11]] (.r (.row [.sym 15,.sym 16,.lit (.bool false),.sym 17])) eo81 (Ksa _ _ (hx.2.mono (by decide)) (hy.2.mono (by decide))) rfl rfl,gp 131 [.row [.sym 12,.sym 13,.lit (.bool false),.sym 14],.row [.sym 15,.sym 16,.lit (.bool false),.sym 17]] (.r (.row [.sym 18,.sym 19,.lit (.bool false),.sym 20])) eo131 (Ufo _ _ ((Qam hx.1 hy.1).mono (by decide)) ((Qam hx.2 hy.2).mono (by decide))) rfl rfl]
    [] []
    func178 100 [.row [.sym 0,.sym 1,.lit (.bool false),.sym 2,.sym 3,.sym 4,.lit (.bool false),.sym 5],.row [.sym 6,.sym 7,.lit (.bool false),.sym 8,.sym 9,.sym 10,.lit (.bool false),.sym 11]] (.r (.row [.sym 18,.sym 19,.lit (.bool false),.sym 20])) (by kernel_rfl) rfl rfl
def Utw(x:QC)(hx:ZL x 33554432):PureC prog 98 [Kbq (x)] ((Qgf (x.re*x.re+x.im*x.im))):=by
 exact Qay (hp:=false) (L:=cG (x)++cF (x.re*x.re+x.im*x.im)) Qai Qap
  [gp 178 [.row [.sym 0,.sym 1,.lit (.bool false),.sym 2,.sym 3,.sym 4,.lit (.bool false),.sym 5],.row [.sym 0,.sym 1,.lit (.bool false),.sym 2,.sym 3,.sym 4,.lit (.bool false),.sym 5]] (.r (.row [.sym 6,.sym 7,.lit (.bool false),.sym 8])) eo178 (Uyb x x hx hx) rfl rfl]
  [] []
  func98 100 [.row [.sym 0,.sym 1,.lit (.bool false),.sym 2,.sym 3,.sym 4,.lit (.bool false),.sym 5]] (.r (.row [.sym 6,.sym 7,.lit (.bool false),.sym 8])) (by kernel_rfl) rfl rfl
structure Upm where
 x:Qeb
 y:Qeb
def Upm.val(s:Upm):Value:=.agg #[.bool s.x.n1,.string s.x.s1,.bool s.x.n2,.string s.x.s2,.bool s.x.n3,.string s.x.s3,.bool s.x.n4,.string s.x.s4,.bool s.y.n1,.string s.y.s1,.bool s.y.n2,.string s.y.s2,.bool s.y.n3,.string s.y.s3,.bool s.y.n4,.string s.y.s4]
def Upm.cells(s:Upm):List GF:=s.x.cells++s.y.cells
def Qeb.vals(g:Qeb):List Value:=[.bool g.n1,.string g.s1,.bool g.n2,.string g.s2,.bool g.n3,.string g.s3,.bool g.n4,.string g.s4]
def Quy.vals(p:Quy):List Value:=.bool p.i::p.g.vals
def Qba(i n:Nat):List AC:=(List.range n).map fun k=>.sym (i+k)
def Qzm{g h:Qeb}(e:g.val=h.val):g=h:=by
 obtain⟨n1,n2,n3,n4,s1,s2,s3,s4⟩:=g;obtain⟨m1,m2,m3,m4,t1,t2,t3,t4⟩:=h;simp only[Qeb.val,Value.agg.injEq,Array.mk.injEq,List.cons.injEq,Value.bool.injEq,Value.string.injEq,and_true] at e;obtain⟨rfl,rfl,rfl,rfl,rfl,rfl,rfl,rfl⟩:=e;rfl
def Kkm{p q:Quy}(e:p.val=q.val):p=q:=by
 obtain⟨i,n1,n2,n3,n4,s1,s2,s3,s4⟩:=p;obtain⟨j,m1,m2,m3,m4,t1,t2,t3,t4⟩:=q;simp only[Quy.val,Value.agg.injEq,Array.mk.injEq,List.cons.injEq,Value.bool.injEq,Value.string.injEq,and_true] at e;obtain⟨rfl,rfl,rfl,rfl,rfl,rfl,rfl,rfl,rfl⟩:=e;rfl
def Qpp{g:Qeb}(h:GOk g.val):∃ z,g=Qah z/\Qac z:=by
 obtain⟨z,e,hs⟩:=h;exact⟨z,Qzm (by rw[e,Qkj]),hs⟩
def Qcl{z:QC}(h:Qac z):GOk (Qah z).val:=⟨z,Qkj z,h⟩
def Qzn{p:Pt}(h:Kqp p):POk (Qtm p).val:=⟨p,Ktm p,h⟩
