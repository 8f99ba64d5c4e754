/- Laws for the walk. -/
import Derived.Test.YtmimficdpfmfgaaGreatUax
set_option linter.unusedVariables false
set_option maxHeartbeats 4000000
set_option maxRecDepth 100000
namespace Tr
open Go Go.RowKit
section
variable{P:Program}{L:List GF}
def goLenS(t:TypeId)(ht:P.underlying t=some .string)(x:AC)(s:ByteArray)(res:AC)(hn:x.noown=true:=by rfl)(hx:x.gv L=some (.string s):=by rfl)(hr:res.gv L=some (.int .i64 (s.size:Nat)):=by rfl):GO P L :=
 goLenG t (.c x) res (fun w A u ty hu=>by
  have e:u=.string s:=(AC.gv_ok (x:=x) hx).1 hu
  subst e
  simp[Builtin.len_,run_underlying ht,goInt]) (by simpa[AR.noown,AR.cells] using hn) hr
theorem eqGuard_plain{t:TypeId}(h:P.eqGuardType P.depth t=false)(op:BinOp)(xo yo:Operand)(a b:Array Value)(w:World):(eqGuard op t xo yo (.agg a) (.agg b)).run P w=.ok () w:=by
 cases op<;>simp[eqGuard,h]
theorem agg_eql{t:TypeId}(h:P.eqGuardType P.depth t=false){a b:Array Value}{r:Bool}(he:∀ w,(binOp .eql t (.agg a) (.agg b)).run P w=.ok (.bool r) w):∀(xo yo:Operand) (w:World),(do eqGuard .eql t xo yo (.agg a) (.agg b); binOp .eql t (.agg a) (.agg b):Sem Value).run P w=.ok (.bool r) w:=by
 intro xo yo w
 rw[Sem.run_bind,eqGuard_plain h,Result.andThen_ok,he]
end
end Tr
namespace Go.Proofs.YtmimficdpfmfgaaGreat
open Go.RowKit Tr
theorem run_eql_w(w:World)(n1 m1:Bool)(s1 t1:ByteArray)(r:Bool)(hr:r=true↔Value.agg #[.bool n1,.string s1]=.agg #[.bool m1,.string t1]) :
  (binOp .eql 24 (.agg #[.bool n1,.string s1]) (.agg #[.bool m1,.string t1])).run Tryz.prog w=.ok (.bool r) w:=by
 simp only[Value.agg.injEq,Array.mk.injEq,List.cons.injEq,Value.bool.injEq,Value.string.injEq,and_true] at hr
 go_simp
 simp only[toL_iff]
 cases r
 ·have hn:¬(n1=m1∧s1=t1):=fun h=>by cases hr.2 h
  repeat' split
  all_goals first
   | rfl
   | (exfalso; apply hn; refine⟨?_,?_⟩<;>assumption)
 ·obtain⟨rfl,rfl⟩:=hr.1 rfl
  simp
theorem encZ_inj{x y:Int}(h:Qdy x=Qdy y):x=y:=by
 unfold Qdy at h
 simp only[Value.agg.injEq,Array.mk.injEq,List.cons.injEq,Value.bool.injEq,Value.string.injEq,and_true] at h
 have h2:=strN_inj h.2
 by_cases hx:x<0<;>by_cases hy:y<0<;>simp[hx,hy] at h<;>omega
theorem ffits(n1 n2:Bool)(s1 s2:ByteArray)(r:Bool)(hr:r=decide (s1.size≤1024∧s2.size≤1024)):PureC Tryz.prog 132 [.agg #[.bool n1,.string s1,.bool n2,.string s2]] (.bool r):=by
 by_cases h1:s1.size≤1024
 ·exact Qaz (hp:=false) (L:=[gx (.bool n1),gx (.string s1),gx (.bool n2),gx (.string s2),gx (.int .i64 (s1.size:Nat)),gx (.int .i64 (s2.size:Nat)),gx (.bool r)]) Qad Qag []
   [gbInt .leq 3 .i64 (.sym 4) (.lit (.int .i64 1024)) _ _ true (by simp[Qdn]; omega) rfl rfl,gb .leq 3 (.c (.sym 5)) (.c (.lit (.int .i64 1024))) (.sym 6) (int_cmp .leq _ .i64 _ _ r (by simp[Qdn,hr,h1]; omega)) rfl rfl rfl]
   [goLenS 9 Tryz.underlying9 (.sym 1) s1 (.sym 4) rfl rfl rfl,goLenS 9 Tryz.underlying9 (.sym 3) s2 (.sym 5) rfl rfl rfl]
   Tryz.func132 100 [.row [.sym 0,.sym 1,.sym 2,.sym 3]] (.r (.c (.sym 6))) (by kernel_rfl) rfl rfl
 ·have hr':r=false:=by rw[hr]; simp[h1]
  subst hr'
  exact Qaz (hp:=false) (L:=[gx (.bool n1),gx (.string s1),gx (.bool n2),gx (.string s2),gx (.int .i64 (s1.size:Nat))]) Qad Qag []
   [gbInt .leq 3 .i64 (.sym 4) (.lit (.int .i64 1024)) _ _ false (by simp[Qdn]; omega) rfl rfl]
   [goLenS 9 Tryz.underlying9 (.sym 1) s1 (.sym 4) rfl rfl rfl]
   Tryz.func132 100 [.row [.sym 0,.sym 1,.sym 2,.sym 3]] (.r (.c (.lit (.bool false)))) (by kernel_rfl) rfl rfl
theorem wform_cells{neg:Bool}{s:ByteArray}(h:WForm neg s):neg=decide (sgn neg (Qeu s)<0)∧s=Qcf (sgn neg (Qeu s)).natAbs:=by
 have:=h.enc
 unfold Qdy at this
 simpa using this
theorem wform_z(z:Int):WForm (decide (z<0)) (Qcf z.natAbs):=by
 refine⟨fun h0=>?_,Qet _⟩
 have h1:=(Qfc (Qet z.natAbs)).2 h0
 rw[Qdk] at h1
 simp; omega
theorem WL.str{n:Nat}{s:ByteArray}{k:Nat}(h:Qeu s=n)(hs:s.size≤k):WL n k:=Nat.le_trans (wl_size h) hs
theorem fformed (n1 n2 : Bool) (s1 s2 : ByteArray) (h1 : s1.size ≤ 536870912) (h2 : s2.size ≤ 536870912) (r : Bool) (hr : r = true ↔ ∃ q : Rat,Value.agg #[.bool n1,.string s1,.bool n2,.string s2] = Qep q) :
    PureC Tryz.prog 154 [.agg #[.bool n1,.string s1,.bool n2,.string s2]] (.bool r):=by
  by_cases w1:WForm n1 s1
  · by_cases w2:WForm n2 s2
    · obtain⟨e1,e2⟩:=wform_cells w1
      obtain⟨e3,e4⟩:=wform_cells w2
      have la:WL (sgn n1 (Qeu s1)).natAbs 536870912:=by rw[Qch]; exact WL.str rfl h1
      have lb:WL (sgn n2 (Qeu s2)).natAbs 536870912:=by rw[Qch]; exact WL.str rfl h2
      obtain⟨a,ha⟩:∃ a,a=sgn n1 (Qeu s1):=⟨_,rfl⟩
      obtain⟨b,hb⟩:∃ b,b=sgn n2 (Qeu s2):=⟨_,rfl⟩
      rw[←ha] at e1 e2 la
      rw[←hb] at e3 e4 lb
      clear ha hb
      subst e1; subst e2; subst e3; subst e4
      have hq:(∃ q:Rat,Value.agg #[.bool (decide (a<0)),.string (Qcf a.natAbs),.bool (decide (b<0)),.string (Qcf b.natAbs)]=Qep q)↔0<b∧Nat.gcd a.natAbs b.natAbs=1:=by
        constructor
        · rintro⟨q,hq⟩
          obtain⟨k1,k2,k3,k4⟩:=Qcj hq
          have k5:=strN_inj k4
          have k6:=strN_inj k2
          have k7:=q.den_nz
          have k8:=q.reduced
          have k9:¬b<0:=by simpa using k3
          refine⟨by omega,?_⟩
          rw[k5,k6]; exact k8
        · rintro⟨k1,k2⟩
          refine⟨⟨a,b.natAbs,by omega,k2⟩,?_⟩
          unfold Qep
          have:¬b<0:=by omega
          simp[this]
      rw[hq] at hr
      have f1:=sformed (decide (a<0)) (Qcf a.natAbs) true (by simp[w1])
      have f2:=sformed (decide (b<0)) (Qcf b.natAbs) true (by simp[w2])
      by_cases hb:0<b
      · have ho:=sof 1 (by decide) (by decide)
        have hg:=sgcd a b la lb
        obtain⟨g,hgd⟩:∃ g,g=Nat.gcd a.natAbs b.natAbs:=⟨_,rfl⟩
        rw[←hgd] at hg hr
        exact Qaz (hp:=false) (L:=cz a++cz b++cz (g:Int)++cz 1++[gx (.bool r),gx (.int .i64 b.sign)]) Qad Qag
          [gp 233 [.row (zA 0)] (.r (.c (.lit (.bool true)))) eo233 f1 rfl rfl,gp 233 [.row (zA 2)] (.r (.c (.lit (.bool true)))) eo233 f2 rfl rfl,gp 193 [.row (zA 2)] (.r (.c (.sym 9))) eo193 (ssign b) rfl rfl,gp 234 [.row (zA 0),.row (zA 2)] (.r (.row (zA 4))) eo234 hg rfl rfl,gp 145 [.c (.lit (.int .i64 1))] (.r (.row (zA 6))) eo145 ho rfl rfl]
          [gbInt .leq 3 .i64 (.sym 9) (.lit (.int .i64 0)) _ _ false (by rw[Int.sign_eq_one_of_pos hb]; rfl) rfl rfl,gb .eql 24 (.row (zA 4)) (.row (zA 6)) (.sym 8) (agg_eql (by kernel_rfl) (fun w=>run_eql_w w _ _ _ _ r (by
             rw[hr]; constructor
             · rintro⟨_,h⟩; rw[h]; rfl
             · intro h; have:=encZ_inj (x:=(g:Int)) (y:=1) h; exact⟨hb,by omega⟩))) rfl rfl rfl] []
          Tryz.func154 100 [.row (zA 0++zA 2)] (.r (.c (.sym 8))) (by kernel_rfl) rfl rfl
      · have hr':r=false:=by cases r; rfl; exact absurd (hr.1 rfl).1 hb
        subst hr'
        exact Qaz (hp:=false) (L:=cz a++cz b++[gx (.int .i64 b.sign)]) Qad Qag
          [gp 233 [.row (zA 0)] (.r (.c (.lit (.bool true)))) eo233 f1 rfl rfl,gp 233 [.row (zA 2)] (.r (.c (.lit (.bool true)))) eo233 f2 rfl rfl,gp 193 [.row (zA 2)] (.r (.c (.sym 4))) eo193 (ssign b) rfl rfl]
          [gbInt .leq 3 .i64 (.sym 4) (.lit (.int .i64 0)) _ _ true (by
            have:b.sign≤0:=by rcases Int.lt_trichotomy b 0 with h|h|h<;>first|(rw[Int.sign_eq_neg_one_of_neg h]; decide)|(subst h; decide)|omega
            simp[Qdn,this]) rfl rfl] []
          Tryz.func154 100 [.row (zA 0++zA 2)] (.r (.c (.lit (.bool false)))) (by kernel_rfl) rfl rfl
    · have hr' : r = false := by
        cases r; rfl
        obtain⟨q,e⟩:=hr.1 rfl
        obtain⟨k1,k2,k3,k4⟩:=Qcj e
        exfalso; apply w2
        have:=wform_z (q.den:Int)
        rw[show decide ((q.den:Int)<0)=false by simp] at this
        rw[k3,k4]; simpa using this
      subst hr'
      exact Qaz (hp:=false) (L:=[gx (.bool n1),gx (.string s1),gx (.bool n2),gx (.string s2)]) Qad Qag
        [gp 233 [.row (zA 0)] (.r (.c (.lit (.bool true)))) eo233 (sformed n1 s1 true (by simp[w1])) rfl rfl,gp 233 [.row (zA 2)] (.r (.c (.lit (.bool false)))) eo233 (sformed n2 s2 false (by simp[w2])) rfl rfl] [] []
        Tryz.func154 100 [.row (zA 0++zA 2)] (.r (.c (.lit (.bool false)))) (by kernel_rfl) rfl rfl
  · have hr' : r = false := by
      cases r; rfl
      obtain⟨q,e⟩:=hr.1 rfl
      obtain⟨k1,k2,k3,k4⟩:=Qcj e
      exfalso; apply w1
      rw[k1,k2]; exact wform_z _
    subst hr'
    exact Qaz (hp:=false) (L:=[gx (.bool n1),gx (.string s1),gx (.bool n2),gx (.string s2)]) Qad Qag
      [gp 233 [.row (zA 0)] (.r (.c (.lit (.bool false)))) eo233 (sformed n1 s1 false (by simp[w1])) rfl rfl] [] []
      Tryz.func154 100 [.row (zA 0++zA 2)] (.r (.c (.lit (.bool false)))) (by kernel_rfl) rfl rfl
theorem fmay (n1 n2 : Bool) (s1 s2 : ByteArray) (r : Bool) (hr : r = true ↔ Qde (.agg #[.bool n1,.string s1,.bool n2,.string s2])) :
    PureC Tryz.prog 57 [.agg #[.bool n1,.string s1,.bool n2,.string s2]] (.bool r):=by
  by_cases h:s1.size≤1024∧s2.size≤1024
  · have hf := fformed n1 n2 s1 s2 (by omega) (by omega) r (by
      rw[hr]
      constructor
      · rintro⟨q,e,_⟩; exact⟨q,e⟩
      · rintro⟨q,e⟩
        obtain⟨k1,k2,k3,k4⟩:=Qcj e
        exact⟨q,e,by rw[←k2]; exact h.1,by rw[←k4]; exact h.2⟩)
    exact Qaz (hp:=false) (L:=[gx (.bool n1),gx (.string s1),gx (.bool n2),gx (.string s2),gx (.bool r)]) Qad Qag
      [gp 132 [.row (zA 0++zA 2)] (.r (.c (.lit (.bool true)))) eo132 (ffits n1 n2 s1 s2 true (by simp[h])) rfl rfl,gp 154 [.row (zA 0++zA 2)] (.r (.c (.sym 4))) eo154 hf rfl rfl] [] []
      Tryz.func57 100 [.row (zA 0++zA 2)] (.r (.c (.sym 4))) (by kernel_rfl) rfl rfl
  · have hr' : r = false := by
      cases r; rfl
      obtain⟨q,e,k⟩:=hr.1 rfl
      obtain⟨k1,k2,k3,k4⟩:=Qcj e
      exfalso; apply h
      rw[k2,k4]; exact k
    subst hr'
    exact Qaz (hp:=false) (L:=[gx (.bool n1),gx (.string s1),gx (.bool n2),gx (.string s2)]) Qad Qag
      [gp 132 [.row (zA 0++zA 2)] (.r (.c (.lit (.bool false)))) eo132 (ffits n1 n2 s1 s2 false (by simp[h])) rfl rfl] [] []
      Tryz.func57 100 [.row (zA 0++zA 2)] (.r (.c (.lit (.bool false)))) (by kernel_rfl) rfl rfl
def RatB(base:Nat)(q:Rat):Qck:=fun v w A=>∃ m C,v=.pointer (some ⟨m,0,none⟩)∧base≤m∧¬A m∧w.heap[m]?=some (.cells C 232 (0,0))∧C.size=4∧NoW (.cells C 232 (0,0))∧Qbl q v w A
theorem RatB.keeps(base:Nat)(q:Rat):(RatB base q).Keeps:=by
 intro v w w' A A' hs hk ⟨m,C,h1,h2,h3,h4,h5,h6,h7⟩
 obtain⟨k1,k2⟩:=hk m (Array.getElem?_eq_some_iff.1 h4).1 h3
 exact⟨m,C,h1,h2,k2,k1.trans h4,h5,h6,Qbl.keeps q _ _ _ _ _ hs hk h7⟩
theorem PutR.ratB{m base:Nat}{q:Rat}{w w':World}(h:PutR m q w w'){A0 A:Nat→Prop}(hA0:Rcv A0 w)(hA:Rcv A w)(hm:base≤m)(h0:∀ b,A0 b→b<base):Qbe A0 (RatB base q) (.pointer (some ⟨m,0,none⟩)) w' (fun b=>A b∧b≠m):=by
 have hr:=h.ratU hA0 hA hm h0
 obtain⟨_,s1,s2,h2,h3,h4⟩:=h
 refine⟨m,_,rfl,hm,?_,h2,rfl,?_,hr⟩
 ·rintro(h|h)
  ·exact h.2 rfl
  ·have:=h0 m h; omega
 ·obtain⟨p1,c1,rfl,_⟩:=h3
  obtain⟨p2,c2,rfl,_⟩:=h4
  intro cs T fr e i k x
  cases e
  rcases i with _|_|_|_|i<;>simp
def CP(a b:Rat):Qck:=fun v w A=>∃ u1 u2,v=.agg #[u1,u2]∧Qbl a u1 w A∧Qbl b u2 w A
theorem CP.keeps(a b:Rat):(CP a b).Keeps:=fun v w w' A A' hs hk ⟨u1,u2,h1,h2,h3⟩=>⟨u1,u2,h1,Qbl.keeps a _ _ _ _ _ hs hk h2,Qbl.keeps b _ _ _ _ _ hs hk h3⟩
theorem CP.below{a b:Rat}{v:Value}{w w':World}{A:Nat→Prop}(h:CP a b v w A)(hb:Below w.heap.size w w'):CP a b v w' A:=Qck.Keeps.below (CP.keeps a b) hb h
theorem Qhy{X:World}{o:Obj}{n i:Nat}(h:n<X.heap.size):(X.alloc o).cell? ⟨n,i,none⟩=X.cell? ⟨n,i,none⟩ :=
 ((Below.refl X.heap.size X).alloc (Nat.le_refl _) o).cell (p:=⟨n,i,none⟩) h
theorem setCell_size(X:World)(a:Addr)(v:Value):(X.setCell a v).heap.size=X.heap.size:=by simp[World.setCell]
def encG(a b:Rat):Value:=.agg #[.bool (decide (a.num<0)),.string (Qcf a.num.natAbs),.bool false,.string (Qcf a.den),.bool (decide (b.num<0)),.string (Qcf b.num.natAbs),.bool false,.string (Qcf b.den)]
theorem new_eight(w:World)(x0 x1 x2 x3 x4 x5 x6 x7:Value)(T:TypeId){w1:World}(h:Below (w.alloc (.cells #[x0,x1,x2,x3,x4,x5,x6,x7] T)).heap.size (w.alloc (.cells #[x0,x1,x2,x3,x4,x5,x6,x7] T)) w1) :
  w1.cell? ⟨w.heap.size,0,none⟩=some x0∧w1.cell? ⟨w.heap.size,1,none⟩=some x1∧w1.cell? ⟨w.heap.size,2,none⟩=some x2∧w1.cell? ⟨w.heap.size,3,none⟩=some x3∧w1.cell? ⟨w.heap.size,4,none⟩=some x4∧w1.cell? ⟨w.heap.size,5,none⟩=some x5∧w1.cell? ⟨w.heap.size,6,none⟩=some x6∧w1.cell? ⟨w.heap.size,7,none⟩=some x7:=by
 have e:=(h.block w.heap.size (by simp)).trans (heap_alloc_new w _)
 simp[World.cell?,e]
theorem frozen_eight(w:World)(x0 x1 x2 x3 x4 x5 x6 x7:Value)(T:TypeId){w1:World}(h:Below (w.alloc (.cells #[x0,x1,x2,x3,x4,x5,x6,x7] T)).heap.size (w.alloc (.cells #[x0,x1,x2,x3,x4,x5,x6,x7] T)) w1) :
  w1.frozen? ⟨w.heap.size,0,none⟩=false∧w1.frozen? ⟨w.heap.size,1,none⟩=false∧w1.frozen? ⟨w.heap.size,2,none⟩=false∧w1.frozen? ⟨w.heap.size,3,none⟩=false∧w1.frozen? ⟨w.heap.size,4,none⟩=false∧w1.frozen? ⟨w.heap.size,5,none⟩=false∧w1.frozen? ⟨w.heap.size,6,none⟩=false∧w1.frozen? ⟨w.heap.size,7,none⟩=false:=by
 have e:=(h.block w.heap.size (by simp)).trans (heap_alloc_new w _)
 simp[World.frozen?,e]
theorem GInt_any(i j:Int)(hi0:-9223372036854775808≤i)(hi1:i<9223372036854775808)(hj0:-9223372036854775808≤j)(hj1:j<9223372036854775808)(w:World) :
  Calls Tryz.prog 73 #[.int .i64 i,.int .i64 j] w fun e w'=>e=.returned (encG i j)∧Below w.heap.size w w':=by
 have hal:Below w.heap.size w (w.alloc (.cells #[.bool false,.string ⟨#[]⟩,.bool false,.string ⟨#[]⟩,.bool false,.string ⟨#[]⟩,.bool false,.string ⟨#[]⟩] 28)):=br.alloc (Nat.le_refl _) _
 have H1:=Lib.hid (fun w=>FInt_any i hi0 hi1 w)
 have H2:=Lib.hid (fun w=>FInt_any j hj0 hj1 w)
 obtain⟨b1,t1,t2,he1⟩:=encF_two (i:Rat)
 obtain⟨b2,t3,t4,he2⟩:=encF_two (j:Rat)
 have HE:=Lib.hid (show encG i j=.agg #[.bool b1,.string t1,.bool false,.string t2,.bool b2,.string t3,.bool false,.string t4] by
  unfold Qep at he1 he2
  simp only[Value.agg.injEq,Array.mk.injEq,List.cons.injEq,Value.bool.injEq,Value.string.injEq,and_true] at he1 he2
  unfold encG
  rw[he1.1,he1.2.1,he1.2.2.2,he2.1,he2.2.1,he2.2.2.2])
 rw[he1] at H1
 rw[he2] at H2
 have HA:=Lib.hid hal
 clear he1 he2 hal
 go_enter Tryz.func73,Tryz.ntmps73
 go_wp2_with fail
 refine(H1.out _).mono ?_
 rintro e w1 ⟨rfl,hb1⟩
 go_wp2_with fail
 refine(H2.out _).mono ?_
 rintro e w2 ⟨rfl,hb2⟩
 have hb12:=hb1.trans (hb2.mono hb1.size)
 obtain⟨c0,c1,c2,c3,c4,c5,c6,c7⟩:=new_eight w _ _ _ _ _ _ _ _ _ hb12
 obtain⟨f0,f1,f2,f3,f4,f5,f6,f7⟩:=frozen_eight w _ _ _ _ _ _ _ _ _ hb12
 have HB:=Lib.hid (HA.out.trans (hb12.mono (by simp)))
 clear hb1 hb2 hb12
 go_wp2_with fail
 refine bodyPost_ret (v:=.agg #[.bool b1,.string t1,.bool false,.string t2,.bool b2,.string t3,.bool false,.string t4]) (by simp[results,Tryz.results73,go_sem,c0,c1,c2,c3,c4,c5,c6,c7]) rfl ⟨by rw[HE.out],?_⟩
 exact((((((((HB.out.setCell (p:=⟨w.heap.size,0,none⟩) (Nat.le_refl _) _).setCell (p:=⟨w.heap.size,1,none⟩) (Nat.le_refl _) _).setCell (p:=⟨w.heap.size,2,none⟩) (Nat.le_refl _) _).setCell (p:=⟨w.heap.size,3,none⟩) (Nat.le_refl _) _).setCell (p:=⟨w.heap.size,4,none⟩) (Nat.le_refl _) _).setCell (p:=⟨w.heap.size,5,none⟩) (Nat.le_refl _) _).setCell (p:=⟨w.heap.size,6,none⟩) (Nat.le_refl _) _).setCell (p:=⟨w.heap.size,7,none⟩) (Nat.le_refl _) _)
open Classical in
noncomputable def okB(n1 n2:Bool)(s1 s2:ByteArray):Bool:=decide (Qde (.agg #[.bool n1,.string s1,.bool n2,.string s2]))
theorem okB_iff{n1 n2:Bool}{s1 s2:ByteArray}:okB n1 n2 s1 s2=true↔Qde (.agg #[.bool n1,.string s1,.bool n2,.string s2]):=by unfold okB; simp
theorem GMay_any(n1 n2 n3 n4:Bool)(s1 s2 s3 s4:ByteArray)(l1:s1.size<274877906944)(l2:s2.size<274877906944)(l3:s3.size<274877906944)(l4:s4.size<274877906944)(w:World) :
  Calls Tryz.prog 290 #[.agg #[.bool n1,.string s1,.bool n2,.string s2,.bool n3,.string s3,.bool n4,.string s4]] w fun e w'=>e=.returned (.bool (okB n1 n2 s1 s2 && okB n3 n4 s3 s4))∧Below w.heap.size w w':=by
 have H1:=Lib.hid (fun w=>May_any n1 n2 s1 s2 l1 l2 _ okB_iff w)
 have H2:=Lib.hid (fun w=>May_any n3 n4 s3 s4 l3 l4 _ okB_iff w)
 have HA:=Lib.hid (show Below w.heap.size w (w.alloc (.cells #[.bool n1,.string s1,.bool n2,.string s2,.bool n3,.string s3,.bool n4,.string s4] 28)) from br.alloc (Nat.le_refl _) _)
 go_enter Tryz.func290,Tryz.ntmps290
 go_wp2_with fail
 refine(H1.out _).mono ?_
 rintro e w1 ⟨rfl,hb1⟩
 obtain⟨e0,e1,e2,e3,e4,e5,e6,e7⟩:=new_eight w _ _ _ _ _ _ _ _ _ hb1
 cases c1:okB n1 n2 s1 s2
 ·have HB:=Lib.hid (HA.out.trans (hb1.mono (by simp)))
  clear hb1
  go_wp2
  all_goals go_ret
  all_goals exact⟨by rw[c1]; rfl,HB.out⟩
 ·go_wp2_with fail
  refine(H2.out _).mono ?_
  rintro e w2 ⟨rfl,hb2⟩
  have HB:=Lib.hid (HA.out.trans ((hb1.trans (hb2.mono hb1.size)).mono (by simp)))
  clear hb1 hb2
  obtain⟨c2,hc2⟩:∃ c2,c2=okB n3 n4 s3 s4:=⟨_,rfl⟩
  rw[←hc2]
  have HC:=Lib.hid hc2
  clear hc2
  go_wp2
  all_goals go_ret
  all_goals exact⟨by rw[c1,←HC.out]; cases c2<;>rfl,HB.out⟩
def zG:Value:=.agg #[.bool false,.string ⟨#[]⟩,.bool false,.string ⟨#[]⟩,.bool false,.string ⟨#[]⟩,.bool false,.string ⟨#[]⟩]
def outG(a b:Rat):Value:=if Qap a∧Qap b then encG a b else zG
def outGC(a b:Rat):Int:=if Qap a∧Qap b then 0 else 4
theorem outF_four(q:Rat):∃ b1 t1 b2 t2,outF q=.agg #[.bool b1,.string t1,.bool b2,.string t2]:=by
 unfold outF
 split
 ·exact⟨_,_,_,_,rfl⟩
 ·exact⟨_,_,_,_,rfl⟩
theorem outC_zero{q:Rat}:outC q=0↔Qap q:=by unfold outC; split<;>simp[*]
theorem outG_of{a b:Rat}(ha:Qap a)(hb:Qap b){b1 b2 b3 b4:Bool}{t1 t2 t3 t4:ByteArray}(e1:outF a=.agg #[.bool b1,.string t1,.bool b2,.string t2])(e2:outF b=.agg #[.bool b3,.string t3,.bool b4,.string t4]):outG a b=.agg #[.bool b1,.string t1,.bool b2,.string t2,.bool b3,.string t3,.bool b4,.string t4]:=by
 unfold outF at e1 e2
 rw[if_pos ha] at e1
 rw[if_pos hb] at e2
 unfold Qep at e1 e2
 simp only[Value.agg.injEq,Array.mk.injEq,List.cons.injEq,Value.bool.injEq,Value.string.injEq,and_true] at e1 e2
 unfold outG
 rw[if_pos ⟨ha,hb⟩]
 unfold encG
 rw[e1.1,e1.2.1,e1.2.2.1,e1.2.2.2,e2.1,e2.2.1,e2.2.2.2]
 rw[e1.2.2.1] at e2
 rw[e2.2.2.1]
def PP(a b c d:Rat):Qck:=fun v w A=>∃ u1 u2 u3 u4,v=.agg #[u1,u2,u3,u4]∧Qbl a u1 w A∧Qbl b u2 w A∧Qbl c u3 w A∧Qbl d u4 w A
theorem PP.keeps(a b c d:Rat):(PP a b c d).Keeps:=fun v w w' A A' hs hk ⟨u1,u2,u3,u4,h0,h1,h2,h3,h4⟩=>⟨u1,u2,u3,u4,h0,Qbl.keeps a _ _ _ _ _ hs hk h1,Qbl.keeps b _ _ _ _ _ hs hk h2,Qbl.keeps c _ _ _ _ _ hs hk h3,Qbl.keeps d _ _ _ _ _ hs hk h4⟩
structure QC where
 re:Rat
 im:Rat
 deriving DecidableEq
namespace QC
instance:Mul QC:=⟨fun x y=>⟨x.re*y.re - x.im*y.im,x.re*y.im+x.im*y.re⟩⟩
instance:Add QC:=⟨fun x y=>⟨x.re+y.re,x.im+y.im⟩⟩
instance:Sub QC:=⟨fun x y=>⟨x.re - y.re,x.im - y.im⟩⟩
end QC
def ZL(z:QC)(k:Nat):Prop:=RL z.re k∧RL z.im k
theorem ZL.mono{z:QC}{k l:Nat}(h:ZL z k)(hl:k≤l):ZL z l:=⟨h.1.mono hl,h.2.mono hl⟩
theorem ZL_mul{x y:QC}{k l:Nat}(hx:ZL x k)(hy:ZL y l):ZL (x*y) (k+l+(k+l)+1):=⟨Qbv (Qat hx.1 hy.1) (Qat hx.2 hy.2),Qay (Qat hx.1 hy.2) (Qat hx.2 hy.1)⟩
theorem Qar{x y:QC}{k l:Nat}(hx:ZL x k)(hy:ZL y l):ZL (x - y) (k+l+1):=⟨Qbv hx.1 hy.1,Qbv hx.2 hy.2⟩
def CQ(z:QC):Qck:=CP z.re z.im
theorem CQ.keeps(z:QC):(CQ z).Keeps:=CP.keeps _ _
def PQ(x y:QC):Qck:=PP x.re x.im y.re y.im
theorem PQ.keeps(x y:QC):(PQ x y).Keeps:=PP.keeps _ _ _ _
end Go.Proofs.YtmimficdpfmfgaaGreat
namespace Go.Proofs.YtmimficdpfmfgaaGreat
open Go.RowKit Tr
theorem Infinity_any(w:World):Calls Tryz.prog 289 #[] w fun e w'=>e=.returned (.agg #[.bool true,.bool false,.string ⟨#[]⟩,.bool false,.string ⟨#[]⟩,.bool false,.string ⟨#[]⟩,.bool false,.string ⟨#[]⟩])∧Below w.heap.size w w':=by
 have HB:=Lib.hid (show Below w.heap.size w (w.alloc (.cells #[.bool true,.bool false,.string ⟨#[]⟩,.bool false,.string ⟨#[]⟩,.bool false,.string ⟨#[]⟩,.bool false,.string ⟨#[]⟩] 81)) from br.alloc (Nat.le_refl _) _)
 go_enter Tryz.func289,Tryz.ntmps289
 go_wp2_with fail
 refine bodyPost_ret (v:=.agg #[.bool true,.bool false,.string ⟨#[]⟩,.bool false,.string ⟨#[]⟩,.bool false,.string ⟨#[]⟩,.bool false,.string ⟨#[]⟩]) (by simp[results,Tryz.results289,go_sem]) rfl ⟨rfl,?_⟩
 exact HB.out
theorem sq_nonneg(a:Rat):0≤a*a:=by
 rcases Rat.nonneg_total a with h|h
 ·exact Rat.mul_nonneg h h
 ·have:=Rat.mul_nonneg h h
  rwa[Rat.neg_mul,Rat.mul_neg,Rat.neg_neg] at this
theorem sq_zero{a b:Rat}(h:a*a+b*b=0):a=0:=by
 have h1:-(a*a)=b*b:=by
  have:-(a*a)+(a*a+b*b)=-(a*a)+0:=by rw[h]
  rw[←Rat.add_assoc,Rat.neg_add_cancel,Rat.zero_add,Rat.add_zero] at this
  exact this.symm
 have h2:=Rat.nonneg_antisymm (sq_nonneg a) (by rw[h1]; exact sq_nonneg b)
 rcases Rat.mul_eq_zero.1 h2 with h|h<;>exact h
theorem norm_zero{a b:Rat}:a*a+b*b=0↔a=0∧b=0:=by
 constructor
 ·intro h; exact⟨sq_zero h,sq_zero (by rw[Rat.add_comm]; exact h)⟩
 ·rintro⟨rfl,rfl⟩; decide +kernel
instance:Div QC:=⟨fun x y=>⟨(x.re*y.re - x.im*(-y.im))*(y.re*y.re+y.im*y.im)⁻¹,(x.re*(-y.im)+x.im*y.re)*(y.re*y.re+y.im*y.im)⁻¹⟩⟩
theorem ZL_div{x y:QC}{k l:Nat}(h0:y.re*y.re+y.im*y.im≠0)(hx:ZL x k)(hy:ZL y l):ZL (x / y) (k+l+(k+l)+1+(l+l+(l+l)+1)):=by
 have li:RL (y.re*y.re+y.im*y.im)⁻¹ (l+l+(l+l)+1):=RL_inv h0 (Qay (Qat hy.1 hy.1) (Qat hy.2 hy.2))
 exact⟨Qat (Qbv (Qat hx.1 hy.1) (Qat hx.2 (Qgd hy.2))) li,Qat (Qay (Qat hx.1 (Qgd hy.2)) (Qat hx.2 hy.1)) li⟩
def infP:Value:=.agg #[.bool true,.bool false,.string ⟨#[]⟩,.bool false,.string ⟨#[]⟩,.bool false,.string ⟨#[]⟩,.bool false,.string ⟨#[]⟩]
def encPt(z:QC):Value:=.agg #[.bool false,.bool (decide (z.re.num<0)),.string (Qcf z.re.num.natAbs),.bool false,.string (Qcf z.re.den),.bool (decide (z.im.num<0)),.string (Qcf z.im.num.natAbs),.bool false,.string (Qcf z.im.den)]
theorem new_nine(w:World)(x0 x1 x2 x3 x4 x5 x6 x7 x8:Value)(T:TypeId){w1:World}(h:Below (w.alloc (.cells #[x0,x1,x2,x3,x4,x5,x6,x7,x8] T)).heap.size (w.alloc (.cells #[x0,x1,x2,x3,x4,x5,x6,x7,x8] T)) w1) :
  (w1.cell? ⟨w.heap.size,0,none⟩=some x0∧w1.cell? ⟨w.heap.size,1,none⟩=some x1∧w1.cell? ⟨w.heap.size,2,none⟩=some x2∧w1.cell? ⟨w.heap.size,3,none⟩=some x3∧w1.cell? ⟨w.heap.size,4,none⟩=some x4∧w1.cell? ⟨w.heap.size,5,none⟩=some x5∧w1.cell? ⟨w.heap.size,6,none⟩=some x6∧w1.cell? ⟨w.heap.size,7,none⟩=some x7∧w1.cell? ⟨w.heap.size,8,none⟩=some x8) ∧
  w1.frozen? ⟨w.heap.size,0,none⟩=false∧w1.frozen? ⟨w.heap.size,1,none⟩=false∧w1.frozen? ⟨w.heap.size,2,none⟩=false∧w1.frozen? ⟨w.heap.size,3,none⟩=false∧w1.frozen? ⟨w.heap.size,4,none⟩=false∧w1.frozen? ⟨w.heap.size,5,none⟩=false∧w1.frozen? ⟨w.heap.size,6,none⟩=false∧w1.frozen? ⟨w.heap.size,7,none⟩=false∧w1.frozen? ⟨w.heap.size,8,none⟩=false:=by
 have e:=(h.block w.heap.size (by simp)).trans (heap_alloc_new w _)
 simp[World.cell?,World.frozen?,e]
def encQ(z:QC):Value:=encG z.re z.im
abbrev Pt:=Option QC
def encP:Pt→Value
 | none=>infP
 | some z=>encPt z
def Qab(z:QC):Prop:=Qap z.re∧Qap z.im
def ShortP:Pt→Prop
 | none=>True
 | some z=>Qab z
theorem Qei{q:Rat}(h:Qap q):RL q 1024:=by
 refine⟨?_,?_⟩
 ·exact Nat.le_trans (wl_size (Qdk _)) h.1
 ·exact Nat.le_trans (wl_size (Qdk _)) h.2
theorem Qaa{z:QC}(h:Qab z):ZL z 1024:=⟨Qei h.1,Qei h.2⟩
structure Qbp where
 (n1 n2 n3 n4:Bool)
 (s1 s2 s3 s4:ByteArray)
def Qbp.val(g:Qbp):Value:=.agg #[.bool g.n1,.string g.s1,.bool g.n2,.string g.s2,.bool g.n3,.string g.s3,.bool g.n4,.string g.s4]
def Qbp.cells(g:Qbp):List GF:=[gx (.bool g.n1),gx (.string g.s1),gx (.bool g.n2),gx (.string g.s2),gx (.bool g.n3),gx (.string g.s3),gx (.bool g.n4),gx (.string g.s4)]
structure RawP where
 i:Bool
 g:Qbp
def RawP.val(p:RawP):Value:=.agg #[.bool p.i,.bool p.g.n1,.string p.g.s1,.bool p.g.n2,.string p.g.s2,.bool p.g.n3,.string p.g.s3,.bool p.g.n4,.string p.g.s4]
def RawP.cells(p:RawP):List GF:=gx (.bool p.i) :: p.g.cells
def gA(i:Nat):List AC:=[.sym i,.sym (i+1),.sym (i+2),.sym (i+3),.sym (i+4),.sym (i+5),.sym (i+6),.sym (i+7)]
def pA(i:Nat):List AC:=[.sym i,.sym (i+1),.sym (i+2),.sym (i+3),.sym (i+4),.sym (i+5),.sym (i+6),.sym (i+7),.sym (i+8)]
def cG(z:QC):List GF:=cF z.re++cF z.im
def GOk(v:Value):Prop:=∃ z:QC,v=encQ z∧Qab z
def POk(v:Value):Prop:=∃ p:Pt,v=encP p∧ShortP p
theorem gOk_iff(g:Qbp):GOk g.val↔Qde (.agg #[.bool g.n1,.string g.s1,.bool g.n2,.string g.s2])∧Qde (.agg #[.bool g.n3,.string g.s3,.bool g.n4,.string g.s4]):=by
 constructor
 ·rintro⟨z,e,h1,h2⟩
  unfold Qbp.val encQ encG at e
  simp only[Value.agg.injEq,Array.mk.injEq,List.cons.injEq,Value.bool.injEq,Value.string.injEq,and_true] at e
  obtain⟨e1,e2,e3,e4,e5,e6,e7,e8⟩:=e
  exact⟨⟨z.re,by unfold Qep; rw[e1,e2,e3,e4],h1⟩,⟨z.im,by unfold Qep; rw[e5,e6,e7,e8],h2⟩⟩
 ·rintro⟨⟨a,e,h1⟩,⟨b,f,h2⟩⟩
  obtain⟨e1,e2,e3,e4⟩:=Qcj e
  obtain⟨f1,f2,f3,f4⟩:=Qcj f
  refine⟨⟨a,b⟩,?_,h1,h2⟩
  unfold Qbp.val encQ encG
  rw[e1,e2,e3,e4,f1,f2,f3,f4]
theorem pOk_num{p:RawP}(h:p.i=false):POk p.val↔GOk p.g.val:=by
 constructor
 ·rintro⟨q,e,hs⟩
  cases q with
  | none =>
   have e':p.val=infP:=e
   unfold RawP.val infP at e'
   simp[h] at e'
  | some z =>
   have e':p.val=encPt z:=e
   refine⟨z,?_,hs⟩
   unfold RawP.val encPt at e'
   unfold Qbp.val encQ encG
   simp only[Value.agg.injEq,Array.mk.injEq,List.cons.injEq,Value.bool.injEq,Value.string.injEq,and_true] at e' ⊢
   exact e'.2
 ·rintro⟨z,e,hs⟩
  refine⟨some z,?_,hs⟩
  show p.val=encPt z
  unfold RawP.val encPt
  unfold Qbp.val encQ encG at e
  simp only[Value.agg.injEq,Array.mk.injEq,List.cons.injEq,Value.bool.injEq,Value.string.injEq,and_true] at e ⊢
  exact⟨h,e⟩
theorem pOk_inf{p:RawP}(h:p.i=true):POk p.val↔p.val=infP:=by
 constructor
 ·rintro⟨q,e,hs⟩
  cases q with
  | none=>exact e
  | some z =>
   have e':p.val=encPt z:=e
   unfold RawP.val encPt at e'
   simp[h] at e'
 ·intro e; exact⟨none,e,trivial⟩
theorem run_eql_rp(w:World)(p q:RawP)(r:Bool)(hr:r=true↔p.val=q.val):(binOp .eql 81 p.val q.val).run Tryz.prog w=.ok (.bool r) w:=by
 obtain⟨i,n1,n2,n3,n4,s1,s2,s3,s4⟩:=p
 obtain⟨j,m1,m2,m3,m4,t1,t2,t3,t4⟩:=q
 simp only[RawP.val] at hr ⊢
 simp only[Value.agg.injEq,Array.mk.injEq,List.cons.injEq,Value.bool.injEq,Value.string.injEq,and_true] at hr
 go_simp
 simp only[toL_iff]
 cases r
 ·have hn:¬(i=j∧n1=m1∧s1=t1∧n2=m2∧s2=t2∧n3=m3∧s3=t3∧n4=m4∧s4=t4):=fun h=>by cases hr.2 h
  repeat' split
  all_goals first
   | rfl
   | (exfalso; apply hn; refine⟨?_,?_,?_,?_,?_,?_,?_,?_,?_⟩<;>assumption)
 ·obtain⟨rfl,rfl,rfl,rfl,rfl,rfl,rfl,rfl,rfl⟩:=hr.1 rfl
  simp
theorem run_eql_rg(w:World)(p q:Qbp)(r:Bool)(hr:r=true↔p.val=q.val):(binOp .eql 28 p.val q.val).run Tryz.prog w=.ok (.bool r) w:=by
 obtain⟨n1,n2,n3,n4,s1,s2,s3,s4⟩:=p
 obtain⟨m1,m2,m3,m4,t1,t2,t3,t4⟩:=q
 simp only[Qbp.val] at hr ⊢
 simp only[Value.agg.injEq,Array.mk.injEq,List.cons.injEq,Value.bool.injEq,Value.string.injEq,and_true] at hr
 go_simp
 simp only[toL_iff]
 cases r
 ·have hn:¬(n1=m1∧s1=t1∧n2=m2∧s2=t2∧n3=m3∧s3=t3∧n4=m4∧s4=t4):=fun h=>by cases hr.2 h
  repeat' split
  all_goals first
   | rfl
   | (exfalso; apply hn; refine⟨?_,?_,?_,?_,?_,?_,?_,?_⟩<;>assumption)
 ·obtain⟨rfl,rfl,rfl,rfl,rfl,rfl,rfl,rfl⟩:=hr.1 rfl
  simp
def Qae(z:QC):Qbp:=⟨decide (z.re.num<0),false,decide (z.im.num<0),false,Qcf z.re.num.natAbs,Qcf z.re.den,Qcf z.im.num.natAbs,Qcf z.im.den⟩
theorem Qik(z:QC):(Qae z).val=encQ z:=rfl
def rawPt:Pt→RawP
 | none=>⟨true,⟨false,false,false,false,⟨#[]⟩,⟨#[]⟩,⟨#[]⟩,⟨#[]⟩⟩⟩
 | some z=>⟨false,Qae z⟩
theorem rawPt_val(p:Pt):(rawPt p).val=encP p:=by cases p<;>rfl
theorem encF_inj'{x y:Rat}(h:Qep x=Qep y):x=y:=by
 have:=h
 unfold Qep at h
 simp only[Value.agg.injEq,Array.mk.injEq,List.cons.injEq,Value.bool.injEq,Value.string.injEq,and_true,true_and] at h
 obtain⟨h1,h2,h3⟩:=h
 have e2:=strN_inj h2
 have e3:=strN_inj h3
 refine Rat.ext ?_ e3
 by_cases hx:x.num<0<;>by_cases hy:y.num<0<;>simp[hx,hy] at h1<;>omega
theorem encQ_inj'{x y:QC}(h:encQ x=encQ y):x=y:=by
 unfold encQ encG at h
 simp only[Value.agg.injEq,Array.mk.injEq,List.cons.injEq,Value.bool.injEq,Value.string.injEq,and_true,true_and] at h
 obtain⟨h1,h2,h3,h4,h5,h6⟩:=h
 have e1:x.re=y.re:=encF_inj' (by unfold Qep; rw[h1,h2,h3])
 have e2:x.im=y.im:=encF_inj' (by unfold Qep; rw[h4,h5,h6])
 cases x; cases y; simp_all
theorem gint(a b:Int)(a1:-9223372036854775808≤a)(a2:a<9223372036854775808)(b1:-9223372036854775808≤b)(b2:b<9223372036854775808):PureC Tryz.prog 84 [.int .i64 (a),.int .i64 (b)] ((encQ (⟨(a:Rat),(b:Rat)⟩))):=by
  exact Qaz (hp:=false) (L:=[gx (.int .i64 (a))]++[gx (.int .i64 (b))]++cG (⟨(a:Rat),(b:Rat)⟩)) Qad Qag
    [gp 51 [.c (.sym 0)] (.r (.row [.sym 2,.sym 3,.lit (.bool false),.sym 4])) eo51 (fint a a1 a2) rfl rfl,gp 51 [.c (.sym 1)] (.r (.row [.sym 5,.sym 6,.lit (.bool false),.sym 7])) eo51 (fint b b1 b2) rfl rfl]
    [] []
    Tryz.func84 100 [.c (.sym 0),.c (.sym 1)] (.r (.row [.sym 2,.sym 3,.lit (.bool false),.sym 4,.sym 5,.sym 6,.lit (.bool false),.sym 7])) (by kernel_rfl) rfl rfl
theorem gmay(g:Qbp)(r:Bool)(hr:r=true↔GOk g.val):PureC Tryz.prog 87 [g.val] (.bool r):=by
  rw[gOk_iff] at hr
  obtain⟨a,ha⟩:∃ a:Bool,a=true↔Qde (.agg #[.bool g.n1,.string g.s1,.bool g.n2,.string g.s2]):=by
    by_cases h:Qde (.agg #[.bool g.n1,.string g.s1,.bool g.n2,.string g.s2])
    · exact⟨true,by simp[h]⟩
    · exact⟨false,by simp[h]⟩
  have h1:=fmay g.n1 g.n2 g.s1 g.s2 a ha
  cases a
  · have hr':r=false:=by cases r; rfl; have:=ha.2 (hr.1 rfl).1; cases this
    subst hr'
    exact Qaz (hp:=false) (L:=g.cells) Qad Qag
      [gp 57 [.row (zA 0++zA 2)] (.r (.c (.lit (.bool false)))) eo57 h1 rfl rfl] [] []
      Tryz.func87 100 [.row (gA 0)] (.r (.c (.lit (.bool false)))) (by kernel_rfl) rfl rfl
  · have h2:=fmay g.n3 g.n4 g.s3 g.s4 r (by rw[hr]; exact⟨fun h=>h.2,fun h=>⟨ha.1 rfl,h⟩⟩)
    exact Qaz (hp:=false) (L:=g.cells++[gx (.bool r)]) Qad Qag
      [gp 57 [.row (zA 0++zA 2)] (.r (.c (.lit (.bool true)))) eo57 h1 rfl rfl,gp 57 [.row (zA 4++zA 6)] (.r (.c (.sym 8))) eo57 h2 rfl rfl] [] []
      Tryz.func87 100 [.row (gA 0)] (.r (.c (.sym 8))) (by kernel_rfl) rfl rfl
theorem gfits(z:QC)(r:Bool)(hr:r=true↔Qab z):PureC Tryz.prog 196 [encQ z] (.bool r):=by
  have h1:=ffits (decide (z.re.num<0)) false (Qcf z.re.num.natAbs) (Qcf z.re.den) _ rfl
  have h2:=ffits (decide (z.im.num<0)) false (Qcf z.im.num.natAbs) (Qcf z.im.den) _ rfl
  by_cases ha:Qap z.re
  · rw[show decide ((Qcf z.re.num.natAbs).size≤1024∧(Qcf z.re.den).size≤1024)=true from decide_eq_true ha] at h1
    rw[show decide ((Qcf z.im.num.natAbs).size≤1024∧(Qcf z.im.den).size≤1024)=r by rw[Bool.eq_iff_iff,decide_eq_true_iff,hr]; exact⟨fun h=>⟨ha,h⟩,fun h=>h.2⟩] at h2
    exact Qaz (hp:=false) (L:=cG z++[gx (.bool r)]) Qad Qag
      [gp 132 [.row [.sym 0,.sym 1,.lit (.bool false),.sym 2]] (.r (.c (.lit (.bool true)))) eo132 h1 rfl rfl,gp 132 [.row [.sym 3,.sym 4,.lit (.bool false),.sym 5]] (.r (.c (.sym 6))) eo132 h2 rfl rfl] [] []
      Tryz.func196 100 [.row [.sym 0,.sym 1,.lit (.bool false),.sym 2,.sym 3,.sym 4,.lit (.bool false),.sym 5]] (.r (.c (.sym 6))) (by kernel_rfl) rfl rfl
  · rw[show decide ((Qcf z.re.num.natAbs).size≤1024∧(Qcf z.re.den).size≤1024)=false from decide_eq_false ha] at h1
    have hr':r=false:=by cases r; rfl; exact absurd (hr.1 rfl).1 ha
    subst hr'
    exact Qaz (hp:=false) (L:=cG z) Qad Qag
      [gp 132 [.row [.sym 0,.sym 1,.lit (.bool false),.sym 2]] (.r (.c (.lit (.bool false)))) eo132 h1 rfl rfl] [] []
      Tryz.func196 100 [.row [.sym 0,.sym 1,.lit (.bool false),.sym 2,.sym 3,.sym 4,.lit (.bool false),.sym 5]] (.r (.c (.lit (.bool false)))) (by kernel_rfl) rfl rfl
end Go.Proofs.YtmimficdpfmfgaaGreat
namespace Tr
open Go Go.RowKit Go.Proofs.YtmimficdpfmfgaaGreat
theorem ZL.r{z:QC}{k:Nat}(h:ZL z k):RL z.re k:=h.1
theorem ZL.i{z:QC}{k:Nat}(h:ZL z k):RL z.im k:=h.2
end Tr
namespace Go.Proofs.YtmimficdpfmfgaaGreat
open Go.RowKit Tr
theorem gplus(x y:QC)(hx:ZL x 134217728)(hy:ZL y 134217728):PureC Tryz.prog 183 [encQ (x),encQ (y)] ((encQ (x+y))):=by
  exact Qaz (hp:=false) (L:=cG (x)++cG (y)++cG (x+y)) Qad Qag
    [gp 137 [.row [.sym 0,.sym 1,.lit (.bool false),.sym 2],.row [.sym 6,.sym 7,.lit (.bool false),.sym 8]] (.r (.row [.sym 12,.sym 13,.lit (.bool false),.sym 14])) eo137 (fplus _ _ hx.1 hy.1) rfl rfl,gp 137 [.row [.sym 3,.sym 4,.lit (.bool false),.sym 5],.row [.sym 9,.sym 10,.lit (.bool false),.sym 11]] (.r (.row [.sym 15,.sym 16,.lit (.bool false),.sym 17])) eo137 (fplus _ _ hx.2 hy.2) rfl rfl]
    [] []
    Tryz.func183 100 [.row [.sym 0,.sym 1,.lit (.bool false),.sym 2,.sym 3,.sym 4,.lit (.bool false),.sym 5],.row [.sym 6,.sym 7,.lit (.bool false),.sym 8,.sym 9,.sym 10,.lit (.bool false),.sym 11]] (.r (.row [.sym 12,.sym 13,.lit (.bool false),.sym 14,.sym 15,.sym 16,.lit (.bool false),.sym 17])) (by kernel_rfl) rfl rfl
theorem gneg(z:QC):PureC Tryz.prog 164 [encQ z] (encQ ⟨-z.re,-z.im⟩) :=
  Qaz (hp:=false) (L:=cG z++cG ⟨-z.re,-z.im⟩) Qad Qag
    [gp 144 [.row [.sym 0,.sym 1,.lit (.bool false),.sym 2]] (.r (.row [.sym 6,.sym 7,.lit (.bool false),.sym 8])) eo144 (fneg z.re) rfl rfl,gp 144 [.row [.sym 3,.sym 4,.lit (.bool false),.sym 5]] (.r (.row [.sym 9,.sym 10,.lit (.bool false),.sym 11])) eo144 (fneg z.im) rfl rfl] [] []
    Tryz.func164 100 [.row [.sym 0,.sym 1,.lit (.bool false),.sym 2,.sym 3,.sym 4,.lit (.bool false),.sym 5]] (.r (.row [.sym 6,.sym 7,.lit (.bool false),.sym 8,.sym 9,.sym 10,.lit (.bool false),.sym 11])) (by kernel_rfl) rfl rfl
theorem gconj(z:QC):PureC Tryz.prog 165 [encQ z] (encQ ⟨z.re,-z.im⟩) :=
 Qaz (hp:=false) (L:=cG z++cF (-z.im)) Qad Qag
  [gp 144 [.row [.sym 3,.sym 4,.lit (.bool false),.sym 5]] (.r (.row [.sym 6,.sym 7,.lit (.bool false),.sym 8])) eo144 (fneg z.im) rfl rfl] [] []
  Tryz.func165 100 [.row [.sym 0,.sym 1,.lit (.bool false),.sym 2,.sym 3,.sym 4,.lit (.bool false),.sym 5]] (.r (.row [.sym 0,.sym 1,.lit (.bool false),.sym 2,.sym 6,.sym 7,.lit (.bool false),.sym 8])) (by kernel_rfl) rfl rfl
theorem sub_plus(x y:QC):x+⟨-y.re,-y.im⟩=x - y:=by
 show(⟨x.re+-y.re,x.im+-y.im⟩:QC)=⟨x.re - y.re,x.im - y.im⟩
 rw[Rat.sub_eq_add_neg,Rat.sub_eq_add_neg]
theorem ZL_negc{y:QC}{k:Nat}(h:ZL y k):ZL ⟨-y.re,-y.im⟩ k:=⟨Qgd h.1,Qgd h.2⟩
theorem gminus(x y:QC)(hx:ZL x 134217728)(hy:ZL y 134217728):PureC Tryz.prog 134 [encQ (x),encQ (y)] ((encQ (x - y))):=by
  have hp:=gplus x ⟨-y.re,-y.im⟩ hx (ZL_negc hy)
  rw[sub_plus] at hp
  exact Qaz (hp:=false) (L:=cG (x)++cG (y)++cG (⟨-y.re,-y.im⟩)++cG (x - y)) Qad Qag
    [gp 164 [.row [.sym 6,.sym 7,.lit (.bool false),.sym 8,.sym 9,.sym 10,.lit (.bool false),.sym 11]] (.r (.row [.sym 12,.sym 13,.lit (.bool false),.sym 14,.sym 15,.sym 16,.lit (.bool false),.sym 17])) eo164 (gneg y) rfl rfl,gp 183 [.row [.sym 0,.sym 1,.lit (.bool false),.sym 2,.sym 3,.sym 4,.lit (.bool false),.sym 5],.row [.sym 12,.sym 13,.lit (.bool false),.sym 14,.sym 15,.sym 16,.lit (.bool false),.sym 17]] (.r (.row [.sym 18,.sym 19,.lit (.bool false),.sym 20,.sym 21,.sym 22,.lit (.bool false),.sym 23])) eo183 (hp) rfl rfl]
    [] []
    Tryz.func134 100 [.row [.sym 0,.sym 1,.lit (.bool false),.sym 2,.sym 3,.sym 4,.lit (.bool false),.sym 5],.row [.sym 6,.sym 7,.lit (.bool false),.sym 8,.sym 9,.sym 10,.lit (.bool false),.sym 11]] (.r (.row [.sym 18,.sym 19,.lit (.bool false),.sym 20,.sym 21,.sym 22,.lit (.bool false),.sym 23])) (by kernel_rfl) rfl rfl
theorem gdot(x y:QC)(hx:ZL x 33554432)(hy:ZL y 33554432):PureC Tryz.prog 217 [encQ (x),encQ (y)] ((Qep (x.re*y.re+x.im*y.im))):=by
  exact Qaz (hp:=false) (L:=cG (x)++cG (y)++cF (x.re*y.re)++cF (x.im*y.im)++cF (x.re*y.re+x.im*y.im)) Qad Qag
    [gp 135 [.row [.sym 0,.sym 1,.lit (.bool false),.sym 2],.row [.sym 6,.sym 7,.lit (.bool false),.sym 8]] (.r (.row [.sym 12,.sym 13,.lit (.bool false),.sym 14])) eo135 (ftimes _ _ (hx.1.mono (by decide)) (hy.1.mono (by decide))) rfl rfl,gp 135 [.row [.sym 3,.sym 4,.lit (.bool false),.sym 5],.row [.sym 9,.sym 10,.lit (.bool false),.sym 11]] (.r (.row [.sym 15,.sym 16,.lit (.bool false),.sym 17])) eo135 (ftimes _ _ (hx.2.mono (by decide)) (hy.2.mono (by decide))) rfl rfl,gp 137 [.row [.sym 12,.sym 13,.lit (.bool false),.sym 14],.row [.sym 15,.sym 16,.lit (.bool false),.sym 17]] (.r (.row [.sym 18,.sym 19,.lit (.bool false),.sym 20])) eo137 (fplus _ _ ((Qat hx.1 hy.1).mono (by decide)) ((Qat hx.2 hy.2).mono (by decide))) rfl rfl]
    [] []
    Tryz.func217 100 [.row [.sym 0,.sym 1,.lit (.bool false),.sym 2,.sym 3,.sym 4,.lit (.bool false),.sym 5],.row [.sym 6,.sym 7,.lit (.bool false),.sym 8,.sym 9,.sym 10,.lit (.bool false),.sym 11]] (.r (.row [.sym 18,.sym 19,.lit (.bool false),.sym 20])) (by kernel_rfl) rfl rfl
theorem gnorm(x:QC)(hx:ZL x 33554432):PureC Tryz.prog 133 [encQ (x)] ((Qep (x.re*x.re+x.im*x.im))):=by
 exact Qaz (hp:=false) (L:=cG (x)++cF (x.re*x.re+x.im*x.im)) Qad Qag
  [gp 217 [.row [.sym 0,.sym 1,.lit (.bool false),.sym 2,.sym 3,.sym 4,.lit (.bool false),.sym 5],.row [.sym 0,.sym 1,.lit (.bool false),.sym 2,.sym 3,.sym 4,.lit (.bool false),.sym 5]] (.r (.row [.sym 6,.sym 7,.lit (.bool false),.sym 8])) eo217 (gdot x x hx hx) rfl rfl]
  [] []
  Tryz.func133 100 [.row [.sym 0,.sym 1,.lit (.bool false),.sym 2,.sym 3,.sym 4,.lit (.bool false),.sym 5]] (.r (.row [.sym 6,.sym 7,.lit (.bool false),.sym 8])) (by kernel_rfl) rfl rfl
end Go.Proofs.YtmimficdpfmfgaaGreat
