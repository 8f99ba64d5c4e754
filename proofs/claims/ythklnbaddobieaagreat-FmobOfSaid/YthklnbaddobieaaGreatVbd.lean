/- Laws for the walk. -/
import Derived.Test.YthklnbaddobieaaGreatVbc
set_option linter.unusedVariables false
set_option maxHeartbeats 4000000
namespace Go.Proofs.YthklnbaddobieaaGreat
open Go.RowKit Tr
theorem BSl.below{w w':World}{v:Value}{s:ByteArray}(h:BSl w v s)(hb:Below w.heap.size w w'):BSl w' v s:=by
 obtain⟨b,off,cap,rfl,hlt,h⟩:=h
 exact⟨b,off,cap,rfl,Nat.lt_of_lt_of_le hlt hb.size,fun i hi=>(hb.cell (p:=⟨b,off+i,none⟩) hlt).trans (h i hi)⟩
theorem divInt_one(i:Int):Rat.divInt i 1=(i:Rat):=by
 have:=Rat.num_divInt_den (i:Rat)
 rw[Rat.num_intCast,Rat.den_intCast] at this
 simpa using this
set_option maxRecDepth 100000 in
theorem EInt_any(i j:Int)(hi0:-9223372036854775808≤i)(hi1:i<9223372036854775808)(hj0:-9223372036854775808≤j)(hj1:j<9223372036854775808)(A:Nat→Prop)(w:World)(hA:Rcv A w) :
  Calls Tryz.prog 184 #[.int .i64 i,.int .i64 j] w fun e w'=>∃ u,e=.returned u∧Below w.heap.size w w'∧NumO i j u w' A:=by
 obtain⟨W,hW⟩:∃ W,W=w.alloc (.cells #[.pointer none,.pointer none] 167):=⟨_,rfl⟩
 have hBW:Below w.heap.size w W:=by rw[hW]; exact br.alloc (Nat.le_refl _) _
 have hAW:Rcv (Mo A w.heap.size) W:=fun b h=>h.elim (fun h=>(hA.below hBW) b h) (fun h=>by subst h; rw[hW]; exact⟨_,heap_alloc_new w _,noW_num _ _ ⟨_,rfl⟩ ⟨_,rfl⟩ _⟩)
 have H1:=Lib.hid (NewRat_any i 1 hi0 hi1 (by decide) (by decide) (by decide) W)
 rw[divInt_one] at H1
 have HA:=Lib.hid (And.intro hW (And.intro hBW hAW))
 clear hBW hAW hA
 go_enter Tryz.func184,Tryz.ntmps184
 go_wp2_with fail
 rw[←hW]
 clear hW
 refine H1.out.mono ?_
 rintro e w1 ⟨v1,rfl,hn1⟩
 have H2:=Lib.hid (NewRat_any j 1 hj0 hj1 (by decide) (by decide) (by decide) w1)
 rw[divInt_one] at H2
 have HN1:=Lib.hid hn1
 clear hn1
 go_wp2_with fail
 refine H2.out.mono ?_
 rintro e w2 ⟨v2,rfl,hn2⟩
 have hr1:=(HN1.out.2 _ HA.out.2.2).below hn2.1
 have hr2:=hn2.2 _ (HA.out.2.2.below HN1.out.1)
 have hb2:=HN1.out.1.trans (hn2.1.mono HN1.out.1.size)
 obtain⟨c0,c1,f0,f1⟩:=new_two w (.pointer none) (.pointer none) 167 (by rw[←HA.out.1]; exact hb2)
 have HE:=Lib.hid (And.intro hr1 (And.intro hr2 (HA.out.2.1.trans (hb2.mono HA.out.2.1.size))))
 obtain⟨m1,rfl⟩:=hr1.shape
 obtain⟨m2,rfl⟩:=hr2.shape
 clear hr1 hr2 hb2 hn2 H1 H2 HN1
 go_wp2_with fail
 refine bodyPost_ret (v:=.agg #[.pointer (some ⟨m1,0,none⟩),.pointer (some ⟨m2,0,none⟩)]) (by simp[results,Tryz.results184,go_sem,c0,c1]) rfl ?_
 exact put_num HE.out.2.2 HE.out.1 HE.out.2.1 (Nat.le_refl _)
def ShortF(q:Rat):Prop:=(strN q.num.natAbs).size≤1024∧(strN q.den).size≤1024
instance (q:Rat):Decidable (ShortF q):=by unfold ShortF; infer_instance
end Go.Proofs.YthklnbaddobieaaGreat
namespace Tr
open Go Go.RowKit
section
variable{P:Program}{L:List GF}
def goLenS(t:TypeId)(ht:P.underlying t=some .string)(x:AC)(s:ByteArray)(res:AC)(hn:x.noown=true:=by rfl)(hx:x.gv L=some (.string s):=by rfl)(hr:res.gv L=some (.int .i64 (s.size:Nat)):=by rfl):GO P L :=
 goLenG t (.c x) res (fun w A u ty hu=>by
  have e:u=.string s:=(AC.gv_ok (x:=x) hx).1 hu
  subst e
  simp[Builtin.len_,run_underlying ht,goInt]) (by simpa[AR.noown,AR.cells] using hn) hr
theorem eqGuard_plain{t:TypeId}(h:P.eqGuardType P.depth t=false)(op:BinOp)(xo yo:Operand)(a b:Array Value)(w:World):(eqGuard op t xo yo (.agg a) (.agg b)).run P w=.ok () w:=by
 cases op<;>simp[eqGuard,h]
theorem agg_eql{t:TypeId}(h:P.eqGuardType P.depth t=false){a b:Array Value}{r:Bool}(he:∀ w,(binOp .eql t (.agg a) (.agg b)).run P w=.ok (.bool r) w):∀(xo yo:Operand) (w:World),(do eqGuard .eql t xo yo (.agg a) (.agg b); binOp .eql t (.agg a) (.agg b):Sem Value).run P w=.ok (.bool r) w:=by
 intro xo yo w
 rw[Sem.run_bind,eqGuard_plain h,Result.andThen_ok,he]
theorem agg_neq{t:TypeId}(h:P.eqGuardType P.depth t=false){a b:Array Value}{r:Bool}(he:∀ w,(binOp .eql t (.agg a) (.agg b)).run P w=.ok (.bool r) w):∀(xo yo:Operand) (w:World),(do eqGuard .neq t xo yo (.agg a) (.agg b); binOp .neq t (.agg a) (.agg b):Sem Value).run P w=.ok (.bool !r) w:=by
 intro xo yo w
 have e1:binOp .eql t (.agg a) (.agg b)=(do pure (.bool (←Op.equal t (.agg a) (.agg b)))):=rfl
 have e2:binOp .neq t (.agg a) (.agg b)=(do pure (.bool (!(←Op.equal t (.agg a) (.agg b))))):=rfl
 rw[Sem.run_bind,eqGuard_plain h,Result.andThen_ok,e2]
 have:=he w
 rw[e1,Sem.run_bind] at this
 rw[Sem.run_bind]
 cases hq:(Op.equal t (.agg a) (.agg b)).run P w with
 | ok v w' =>
  rw[hq] at this
  simp only[Result.andThen_ok,Sem.run_pure,Result.ok.injEq,Value.bool.injEq] at this ⊢
  exact⟨by rw[this.1],this.2⟩
 | halt x w'=>rw[hq] at this; cases this
end
end Tr
namespace Go.Proofs.YthklnbaddobieaaGreat
open Go.RowKit Tr
set_option maxRecDepth 100000 in
theorem run_eql_w(w:World)(n1 m1:Bool)(s1 t1:ByteArray)(r:Bool)(hr:r=true↔Value.agg #[.bool n1,.string s1]=.agg #[.bool m1,.string t1]) :
  (binOp .eql 23 (.agg #[.bool n1,.string s1]) (.agg #[.bool m1,.string t1])).run Tryz.prog w=.ok (.bool r) w:=by
 simp only[Value.agg.injEq,Array.mk.injEq,List.cons.injEq,Value.bool.injEq,Value.string.injEq,and_true] at hr
 go_simp
 simp only[toL_iff]
 cases r
 ·have hn:¬(n1=m1∧s1=t1):=fun h=>by cases hr.2 h
  repeat' split
  all_goals first
   | rfl
   | (exfalso; apply hn; refine⟨?_,?_⟩<;>assumption)
 ·obtain⟨rfl,rfl⟩:=hr.1 rfl
  simp
theorem encZ_inj{x y:Int}(h:encZ x=encZ y):x=y:=by
 unfold encZ at h
 simp only[Value.agg.injEq,Array.mk.injEq,List.cons.injEq,Value.bool.injEq,Value.string.injEq,and_true] at h
 have h2:=strN_inj h.2
 by_cases hx:x<0<;>by_cases hy:y<0<;>simp[hx,hy] at h<;>omega
theorem ffits(n1 n2:Bool)(s1 s2:ByteArray)(r:Bool)(hr:r=decide (s1.size≤1024∧s2.size≤1024)):PureC Tryz.prog 43 [.agg #[.bool n1,.string s1,.bool n2,.string s2]] (.bool r):=by
 by_cases h1:s1.size≤1024
 ·exact ev_pure (hp:=false) (L:=[gx (.bool n1),gx (.string s1),gx (.bool n2),gx (.string s2),gx (.int .i64 (s1.size:Nat)),gx (.int .i64 (s2.size:Nat)),gx (.bool r)]) tys_ok mixed []
   [gbInt .leq 3 .i64 (.sym 4) (.lit (.int .i64 1024)) _ _ true (by simp[cmpB]; omega) rfl rfl,gb .leq 3 (.c (.sym 5)) (.c (.lit (.int .i64 1024))) (.sym 6) (int_cmp .leq _ .i64 _ _ r (by simp[cmpB,hr,h1]; omega)) rfl rfl rfl]
   [goLenS 9 Tryz.underlying9 (.sym 1) s1 (.sym 4) rfl rfl rfl,goLenS 9 Tryz.underlying9 (.sym 3) s2 (.sym 5) rfl rfl rfl]
   Tryz.func43 100 [.row [.sym 0,.sym 1,.sym 2,.sym 3]] (.r (.c (.sym 6))) (by kernel_rfl) rfl rfl
 ·have hr':r=false:=by rw[hr]; simp[h1]
  subst hr'
  exact ev_pure (hp:=false) (L:=[gx (.bool n1),gx (.string s1),gx (.bool n2),gx (.string s2),gx (.int .i64 (s1.size:Nat))]) tys_ok mixed []
   [gbInt .leq 3 .i64 (.sym 4) (.lit (.int .i64 1024)) _ _ false (by simp[cmpB]; omega) rfl rfl]
   [goLenS 9 Tryz.underlying9 (.sym 1) s1 (.sym 4) rfl rfl rfl]
   Tryz.func43 100 [.row [.sym 0,.sym 1,.sym 2,.sym 3]] (.r (.c (.lit (.bool false)))) (by kernel_rfl) rfl rfl
theorem wform_cells{neg:Bool}{s:ByteArray}(h:WForm neg s):neg=decide (sgn neg (numS s)<0)∧s=strN (sgn neg (numS s)).natAbs:=by
 have:=h.enc
 unfold encZ at this
 simpa using this
theorem wform_z(z:Int):WForm (decide (z<0)) (strN z.natAbs):=by
 refine⟨fun h0=>?_,noLead_strN _⟩
 have h1:=(numS_zero (noLead_strN z.natAbs)).2 h0
 rw[numS_strN] at h1
 simp; omega
theorem WL.str{n:Nat}{s:ByteArray}{k:Nat}(h:numS s=n)(hs:s.size≤k):WL n k:=Nat.le_trans (wl_size h) hs
theorem fformed (n1 n2 : Bool) (s1 s2 : ByteArray) (h1 : s1.size ≤ 536870912) (h2 : s2.size ≤ 536870912) (r : Bool) (hr : r = true ↔ ∃ q : Rat,Value.agg #[.bool n1,.string s1,.bool n2,.string s2] = encF q) :
    PureC Tryz.prog 44 [.agg #[.bool n1,.string s1,.bool n2,.string s2]] (.bool r):=by
  by_cases w1:WForm n1 s1
  · by_cases w2:WForm n2 s2
    · obtain⟨e1,e2⟩:=wform_cells w1
      obtain⟨e3,e4⟩:=wform_cells w2
      have la:WL (sgn n1 (numS s1)).natAbs 536870912:=by rw[natAbs_sgn]; exact WL.str rfl h1
      have lb:WL (sgn n2 (numS s2)).natAbs 536870912:=by rw[natAbs_sgn]; exact WL.str rfl h2
      obtain⟨a,ha⟩:∃ a,a=sgn n1 (numS s1):=⟨_,rfl⟩
      obtain⟨b,hb⟩:∃ b,b=sgn n2 (numS s2):=⟨_,rfl⟩
      rw[←ha] at e1 e2 la
      rw[←hb] at e3 e4 lb
      clear ha hb
      subst e1; subst e2; subst e3; subst e4
      have hq:(∃ q:Rat,Value.agg #[.bool (decide (a<0)),.string (strN a.natAbs),.bool (decide (b<0)),.string (strN b.natAbs)]=encF q)↔0<b∧Nat.gcd a.natAbs b.natAbs=1:=by
        constructor
        · rintro⟨q,hq⟩
          obtain⟨k1,k2,k3,k4⟩:=encF_parts hq
          have k5:=strN_inj k4
          have k6:=strN_inj k2
          have k7:=q.den_nz
          have k8:=q.reduced
          have k9:¬b<0:=by simpa using k3
          refine⟨by omega,?_⟩
          rw[k5,k6]; exact k8
        · rintro⟨k1,k2⟩
          refine⟨⟨a,b.natAbs,by omega,k2⟩,?_⟩
          unfold encF
          have:¬b<0:=by omega
          simp[this]
      rw[hq] at hr
      have f1:=sformed (decide (a<0)) (strN a.natAbs) true (by simp[w1])
      have f2:=sformed (decide (b<0)) (strN b.natAbs) true (by simp[w2])
      by_cases hb:0<b
      · have ho:=sof 1 (by decide) (by decide)
        have hg:=sgcd a b la lb
        obtain⟨g,hgd⟩:∃ g,g=Nat.gcd a.natAbs b.natAbs:=⟨_,rfl⟩
        rw[←hgd] at hg hr
        exact ev_pure (hp:=false) (L:=cz a++cz b++cz (g:Int)++cz 1++[gx (.bool r),gx (.int .i64 b.sign)]) tys_ok mixed
          [gp 105 [.row (zA 0)] (.r (.c (.lit (.bool true)))) eo105 f1 rfl rfl,gp 105 [.row (zA 2)] (.r (.c (.lit (.bool true)))) eo105 f2 rfl rfl,gp 106 [.row (zA 2)] (.r (.c (.sym 9))) eo106 (ssign b) rfl rfl,gp 107 [.row (zA 0),.row (zA 2)] (.r (.row (zA 4))) eo107 hg rfl rfl,gp 79 [.c (.lit (.int .i64 1))] (.r (.row (zA 6))) eo79 ho rfl rfl]
          [gbInt .leq 3 .i64 (.sym 9) (.lit (.int .i64 0)) _ _ false (by rw[Int.sign_eq_one_of_pos hb]; rfl) rfl rfl,gb .eql 23 (.row (zA 4)) (.row (zA 6)) (.sym 8) (agg_eql (by kernel_rfl) (fun w=>run_eql_w w _ _ _ _ r (by
             rw[hr]; constructor
             · rintro⟨_,h⟩; rw[h]; rfl
             · intro h; have:=encZ_inj (x:=(g:Int)) (y:=1) h; exact⟨hb,by omega⟩))) rfl rfl rfl] []
          Tryz.func44 100 [.row (zA 0++zA 2)] (.r (.c (.sym 8))) (by kernel_rfl) rfl rfl
      · have hr':r=false:=by cases r; rfl; exact absurd (hr.1 rfl).1 hb
        subst hr'
        exact ev_pure (hp:=false) (L:=cz a++cz b++[gx (.int .i64 b.sign)]) tys_ok mixed
          [gp 105 [.row (zA 0)] (.r (.c (.lit (.bool true)))) eo105 f1 rfl rfl,gp 105 [.row (zA 2)] (.r (.c (.lit (.bool true)))) eo105 f2 rfl rfl,gp 106 [.row (zA 2)] (.r (.c (.sym 4))) eo106 (ssign b) rfl rfl]
          [gbInt .leq 3 .i64 (.sym 4) (.lit (.int .i64 0)) _ _ true (by
            have:b.sign≤0:=by rcases Int.lt_trichotomy b 0 with h|h|h<;>first|(rw[Int.sign_eq_neg_one_of_neg h]; decide)|(subst h; decide)|omega
            simp[cmpB,this]) rfl rfl] []
          Tryz.func44 100 [.row (zA 0++zA 2)] (.r (.c (.lit (.bool false)))) (by kernel_rfl) rfl rfl
    · have hr' : r = false := by
        cases r; rfl
        obtain⟨q,e⟩:=hr.1 rfl
        obtain⟨k1,k2,k3,k4⟩:=encF_parts e
        exfalso; apply w2
        have:=wform_z (q.den:Int)
        rw[show decide ((q.den:Int)<0)=false by simp] at this
        rw[k3,k4]; simpa using this
      subst hr'
      exact ev_pure (hp:=false) (L:=[gx (.bool n1),gx (.string s1),gx (.bool n2),gx (.string s2)]) tys_ok mixed
        [gp 105 [.row (zA 0)] (.r (.c (.lit (.bool true)))) eo105 (sformed n1 s1 true (by simp[w1])) rfl rfl,gp 105 [.row (zA 2)] (.r (.c (.lit (.bool false)))) eo105 (sformed n2 s2 false (by simp[w2])) rfl rfl] [] []
        Tryz.func44 100 [.row (zA 0++zA 2)] (.r (.c (.lit (.bool false)))) (by kernel_rfl) rfl rfl
  · have hr' : r = false := by
      cases r; rfl
      obtain⟨q,e⟩:=hr.1 rfl
      obtain⟨k1,k2,k3,k4⟩:=encF_parts e
      exfalso; apply w1
      rw[k1,k2]; exact wform_z _
    subst hr'
    exact ev_pure (hp:=false) (L:=[gx (.bool n1),gx (.string s1),gx (.bool n2),gx (.string s2)]) tys_ok mixed
      [gp 105 [.row (zA 0)] (.r (.c (.lit (.bool false)))) eo105 (sformed n1 s1 false (by simp[w1])) rfl rfl] [] []
      Tryz.func44 100 [.row (zA 0++zA 2)] (.r (.c (.lit (.bool false)))) (by kernel_rfl) rfl rfl
theorem fmay (n1 n2 : Bool) (s1 s2 : ByteArray) (r : Bool) (hr : r = true ↔ FracOk (.agg #[.bool n1,.string s1,.bool n2,.string s2])) :
    PureC Tryz.prog 13 [.agg #[.bool n1,.string s1,.bool n2,.string s2]] (.bool r):=by
  by_cases h:s1.size≤1024∧s2.size≤1024
  · have hf := fformed n1 n2 s1 s2 (by omega) (by omega) r (by
      rw[hr]
      constructor
      · rintro⟨q,e,_⟩; exact⟨q,e⟩
      · rintro⟨q,e⟩
        obtain⟨k1,k2,k3,k4⟩:=encF_parts e
        exact⟨q,e,by rw[←k2]; exact h.1,by rw[←k4]; exact h.2⟩)
    exact ev_pure (hp:=false) (L:=[gx (.bool n1),gx (.string s1),gx (.bool n2),gx (.string s2),gx (.bool r)]) tys_ok mixed
      [gp 43 [.row (zA 0++zA 2)] (.r (.c (.lit (.bool true)))) eo43 (ffits n1 n2 s1 s2 true (by simp[h])) rfl rfl,gp 44 [.row (zA 0++zA 2)] (.r (.c (.sym 4))) eo44 hf rfl rfl] [] []
      Tryz.func13 100 [.row (zA 0++zA 2)] (.r (.c (.sym 4))) (by kernel_rfl) rfl rfl
  · have hr' : r = false := by
      cases r; rfl
      obtain⟨q,e,k⟩:=hr.1 rfl
      obtain⟨k1,k2,k3,k4⟩:=encF_parts e
      exfalso; apply h
      rw[k2,k4]; exact k
    subst hr'
    exact ev_pure (hp:=false) (L:=[gx (.bool n1),gx (.string s1),gx (.bool n2),gx (.string s2)]) tys_ok mixed
      [gp 43 [.row (zA 0++zA 2)] (.r (.c (.lit (.bool false)))) eo43 (ffits n1 n2 s1 s2 false (by simp[h])) rfl rfl] [] []
      Tryz.func13 100 [.row (zA 0++zA 2)] (.r (.c (.lit (.bool false)))) (by kernel_rfl) rfl rfl
end Go.Proofs.YthklnbaddobieaaGreat
namespace Go.Proofs.YthklnbaddobieaaGreat
open Go.RowKit Tr
def RatB(base:Nat)(q:Rat):Fact:=fun v w A=>∃ m C,v=.pointer (some ⟨m,0,none⟩)∧base≤m∧¬A m∧w.heap[m]?=some (.cells C 133 (0,0))∧C.size=4∧NoW (.cells C 133 (0,0))∧RatP q v w A
theorem RatB.keeps(base:Nat)(q:Rat):(RatB base q).Keeps:=by
 intro v w w' A A' hs hk ⟨m,C,h1,h2,h3,h4,h5,h6,h7⟩
 obtain⟨k1,k2⟩:=hk m (Array.getElem?_eq_some_iff.1 h4).1 h3
 exact⟨m,C,h1,h2,k2,k1.trans h4,h5,h6,RatP.keeps q _ _ _ _ _ hs hk h7⟩
def CP(a b:Rat):Fact:=fun v w A=>∃ u1 u2,v=.agg #[u1,u2]∧RatP a u1 w A∧RatP b u2 w A
theorem CP.keeps(a b:Rat):(CP a b).Keeps:=fun v w w' A A' hs hk ⟨u1,u2,h1,h2,h3⟩=>⟨u1,u2,h1,RatP.keeps a _ _ _ _ _ hs hk h2,RatP.keeps b _ _ _ _ _ hs hk h3⟩
theorem CP.below{a b:Rat}{v:Value}{w w':World}{A:Nat→Prop}(h:CP a b v w A)(hb:Below w.heap.size w w'):CP a b v w' A:=Fact.Keeps.below (CP.keeps a b) hb h
end Go.Proofs.YthklnbaddobieaaGreat
namespace Go.Proofs.YthklnbaddobieaaGreat
open Go.RowKit Tr
end Go.Proofs.YthklnbaddobieaaGreat
namespace Go.Proofs.YthklnbaddobieaaGreat
open Go.RowKit Tr
set_option maxRecDepth 100000 in
theorem XRat_any(n1 n2:Bool)(s1 s2:ByteArray)(hd0:numS s2≠0)(h1:s1.size<274877906944)(h2:s2.size<274877906944)(w:World) :
  Calls Tryz.prog 35 #[.agg #[.bool n1,.string s1,.bool n2,.string s2]] w fun e w'=>∃ v,e=.returned v∧NewR (Rat.divInt (sgn n1 (numS s1)) (sgn n2 (numS s2))) v w w':=by
 have hdz:sgn n2 (numS s2)≠0:=by unfold sgn; cases n2<;>simp<;>omega
 have HZ:=Lib.hid hdz
 have l1:(words (sgn n1 (numS s1)).natAbs).length<274877906944:=by rw[natAbs_sgn]; exact Nat.lt_of_le_of_lt (words_length_le (k:=s1.size) (Nat.lt_of_lt_of_le (numS_lt s1) (Nat.pow_le_pow_left (by decide) _))) h1
 have l2:(words (sgn n2 (numS s2)).natAbs).length<274877906944:=by rw[natAbs_sgn]; exact Nat.lt_of_le_of_lt (words_length_le (k:=s2.size) (Nat.lt_of_lt_of_le (numS_lt s2) (Nat.pow_le_pow_left (by decide) _))) h2
 have HL:=Lib.hid (And.intro l1 l2)
 clear hdz hd0 l1 l2
 go_enter Tryz.func35,Tryz.ntmps35
 go_wp2_with fail
 obtain⟨W,hW⟩:∃ W,W=w.alloc (.cells #[.bool n1,.string s1,.bool n2,.string s2] 25):=⟨_,rfl⟩
 have hB:Below w.heap.size w W:=by rw[hW]; exact br.alloc (Nat.le_refl _) _
 have hWs:w.heap.size<W.heap.size:=by rw[hW]; simp
 obtain⟨e0,e1,e2,e3,_⟩:=new_four w (.bool n1) (.string s1) (.bool n2) (.string s2) 25 br
 rw[←hW] at e0 e1 e2 e3 ⊢
 clear hW
 refine wp_region_inv [(.new zR,[]),(.lit,[]),(.lit,[]),(.val,[]),(.lit,[]),(.lit,[]),(.val,[]),(.on 0 zR,[3,6])]
  (pickF [(3,IntP (sgn n1 (numS s1))),(6,IntP (sgn n2 (numS s2))),(7,RatM W.heap.size (Rat.divInt (sgn n1 (numS s1)) (sgn n2 (numS s2))))]) (by kernel_rfl) ?_ ?_ (by simp[noW_zRat]) (by simp) (by kernel_rfl)
 ·exact keeps_pick (by simp[IntP.keeps,RatM.keeps])
 ·refine⟨fun f w1=>by go_simp,?_⟩
  repeat (refine⟨_,fun f w1 h1=>by(have d0:=ct h1 hWs e0; have d1:=ct h1 hWs e1; have d2:=ct h1 hWs e2; have d3:=ct h1 hWs e3; go_simp; rfl),?_⟩)
  simp only[Act.put,nrA,nrB,nrC,Nat.reduceAdd]
  refine⟨fun f w1 A1 k1 hA hN hd K hK=>by
   go_simp
   refine(xnumber_any n1 s1 h1 w1).mono ?_
   rintro e w' ⟨v,rfl,hn⟩
   exact hK _ _ hn.1 (hn.2 A1 hA),?_⟩
  repeat (refine⟨_,fun f w1 h1=>by(have d0:=ct h1 hWs e0; have d1:=ct h1 hWs e1; have d2:=ct h1 hWs e2; have d3:=ct h1 hWs e3; go_simp; rfl),?_⟩)
  simp only[Act.put,nrA,nrB,nrC,Nat.reduceAdd]
  refine⟨fun f w1 A1 k1 hA hN hd K hK=>by
   go_simp
   refine(xnumber_any n2 s2 h2 w1).mono ?_
   rintro e w' ⟨v,rfl,hn⟩
   exact hK _ _ hn.1 (hn.2 A1 hA),?_⟩
  simp only[Act.put,nrA,nrB,nrC,Nat.reduceAdd]
  refine⟨fun f w1 A1 m1 k1 hA hN hAm hm0 e hz hd K hK=>by
   simp only[e] at hK ⊢
   have i1:IntP (sgn n1 (numS s1)) (f 3) w1 A1:=hd 3 (by simp)
   have i2:IntP (sgn n2 (numS s2)) (f 6) w1 A1:=hd 6 (by simp)
   go_simp
   refine(SetFrac_any m1 _ _ _ HZ.out _ _ A1 w1 hz (by decide) noW_zRat i1 i2 HL.out.1 HL.out.2).mono ?_
   rintro e w' ⟨rfl,hp⟩
   exact hK _ w' hp.1 (hp.ratM hm0 hA),?_⟩
  intro f w1 k1 hF
  have i1:RatM W.heap.size (Rat.divInt (sgn n1 (numS s1)) (sgn n2 (numS s2))) (f 7) w1 NoA:=hF.2
  clear hF
  simp only[Act.put,nrA,nrB,nrC]
  generalize f 3=v3
  generalize f 6=v6
  generalize f 7=v7 at *
  have hbw:Below W.heap.size W w1:=br.drew.trans k1
  have hn:=i1.new (hB.trans (hbw.mono hB.size)) hB.size
  have HN:=Lib.hid hn
  clear hn i1
  go_wp2
  go_ret
  exact⟨v7,rfl,HN.out⟩
end Go.Proofs.YthklnbaddobieaaGreat
namespace Go.Proofs.YthklnbaddobieaaGreat
open Go.RowKit Tr
end Go.Proofs.YthklnbaddobieaaGreat
namespace Go.Proofs.YthklnbaddobieaaGreat
open Go.RowKit Tr
end Go.Proofs.YthklnbaddobieaaGreat
namespace Go.Proofs.YthklnbaddobieaaGreat
open Go.RowKit Tr
def encG(a b:Rat):Value:=.agg #[.bool (decide (a.num<0)),.string (strN a.num.natAbs),.bool false,.string (strN a.den),.bool (decide (b.num<0)),.string (strN b.num.natAbs),.bool false,.string (strN b.den)]
theorem new_eight(w:World)(x0 x1 x2 x3 x4 x5 x6 x7:Value)(T:TypeId){w1:World}(h:Below (w.alloc (.cells #[x0,x1,x2,x3,x4,x5,x6,x7] T)).heap.size (w.alloc (.cells #[x0,x1,x2,x3,x4,x5,x6,x7] T)) w1) :
  w1.cell? ⟨w.heap.size,0,none⟩=some x0∧w1.cell? ⟨w.heap.size,1,none⟩=some x1∧w1.cell? ⟨w.heap.size,2,none⟩=some x2∧w1.cell? ⟨w.heap.size,3,none⟩=some x3∧w1.cell? ⟨w.heap.size,4,none⟩=some x4∧w1.cell? ⟨w.heap.size,5,none⟩=some x5∧w1.cell? ⟨w.heap.size,6,none⟩=some x6∧w1.cell? ⟨w.heap.size,7,none⟩=some x7:=by
 have e:=(h.block w.heap.size (by simp)).trans (heap_alloc_new w _)
 simp[World.cell?,e]
open Classical in
noncomputable def okB(n1 n2:Bool)(s1 s2:ByteArray):Bool:=decide (FracOk (.agg #[.bool n1,.string s1,.bool n2,.string s2]))
theorem okB_iff{n1 n2:Bool}{s1 s2:ByteArray}:okB n1 n2 s1 s2=true↔FracOk (.agg #[.bool n1,.string s1,.bool n2,.string s2]):=by unfold okB; simp
set_option maxRecDepth 100000 in
theorem GMay_any(n1 n2 n3 n4:Bool)(s1 s2 s3 s4:ByteArray)(l1:s1.size<274877906944)(l2:s2.size<274877906944)(l3:s3.size<274877906944)(l4:s4.size<274877906944)(w:World) :
  Calls Tryz.prog 128 #[.agg #[.bool n1,.string s1,.bool n2,.string s2,.bool n3,.string s3,.bool n4,.string s4]] w fun e w'=>e=.returned (.bool (okB n1 n2 s1 s2 && okB n3 n4 s3 s4))∧Below w.heap.size w w':=by
 have H1:=Lib.hid (fun w=>May_any n1 n2 s1 s2 l1 l2 _ okB_iff w)
 have H2:=Lib.hid (fun w=>May_any n3 n4 s3 s4 l3 l4 _ okB_iff w)
 have HA:=Lib.hid (show Below w.heap.size w (w.alloc (.cells #[.bool n1,.string s1,.bool n2,.string s2,.bool n3,.string s3,.bool n4,.string s4] 50)) from br.alloc (Nat.le_refl _) _)
 go_enter Tryz.func128,Tryz.ntmps128
 go_wp2_with fail
 refine(H1.out _).mono ?_
 rintro e w1 ⟨rfl,hb1⟩
 obtain⟨e0,e1,e2,e3,e4,e5,e6,e7⟩:=new_eight w _ _ _ _ _ _ _ _ _ hb1
 cases c1:okB n1 n2 s1 s2
 ·have HB:=Lib.hid (HA.out.trans (hb1.mono (by simp)))
  clear hb1
  go_wp2
  all_goals go_ret
  all_goals exact⟨by rw[c1]; rfl,HB.out⟩
 ·go_wp2_with fail
  refine(H2.out _).mono ?_
  rintro e w2 ⟨rfl,hb2⟩
  have HB:=Lib.hid (HA.out.trans ((hb1.trans (hb2.mono hb1.size)).mono (by simp)))
  clear hb1 hb2
  obtain⟨c2,hc2⟩:∃ c2,c2=okB n3 n4 s3 s4:=⟨_,rfl⟩
  rw[←hc2]
  have HC:=Lib.hid hc2
  clear hc2
  go_wp2
  all_goals go_ret
  all_goals exact⟨by rw[c1,←HC.out]; cases c2<;>rfl,HB.out⟩
end Go.Proofs.YthklnbaddobieaaGreat
namespace Go.Proofs.YthklnbaddobieaaGreat
open Go.RowKit Tr
end Go.Proofs.YthklnbaddobieaaGreat
namespace Go.Proofs.YthklnbaddobieaaGreat
open Go.RowKit Tr
def PP(a b c d:Rat):Fact:=fun v w A=>∃ u1 u2 u3 u4,v=.agg #[u1,u2,u3,u4]∧RatP a u1 w A∧RatP b u2 w A∧RatP c u3 w A∧RatP d u4 w A
theorem PP.keeps(a b c d:Rat):(PP a b c d).Keeps:=fun v w w' A A' hs hk ⟨u1,u2,u3,u4,h0,h1,h2,h3,h4⟩=>⟨u1,u2,u3,u4,h0,RatP.keeps a _ _ _ _ _ hs hk h1,RatP.keeps b _ _ _ _ _ hs hk h2,RatP.keeps c _ _ _ _ _ hs hk h3,RatP.keeps d _ _ _ _ _ hs hk h4⟩
end Go.Proofs.YthklnbaddobieaaGreat
namespace Go.Proofs.YthklnbaddobieaaGreat
open Go.RowKit Tr
structure QC where
 re:Rat
 im:Rat
 deriving DecidableEq
namespace QC
instance:Mul QC:=⟨fun x y=>⟨x.re*y.re - x.im*y.im,x.re*y.im+x.im*y.re⟩⟩
instance:Add QC:=⟨fun x y=>⟨x.re+y.re,x.im+y.im⟩⟩
instance:Sub QC:=⟨fun x y=>⟨x.re - y.re,x.im - y.im⟩⟩
end QC
def ZL(z:QC)(k:Nat):Prop:=RL z.re k∧RL z.im k
theorem ZL.mono{z:QC}{k l:Nat}(h:ZL z k)(hl:k≤l):ZL z l:=⟨h.1.mono hl,h.2.mono hl⟩
theorem ZL_mul{x y:QC}{k l:Nat}(hx:ZL x k)(hy:ZL y l):ZL (x*y) (k+l+(k+l)+1):=⟨RL_sub (RL_mul hx.1 hy.1) (RL_mul hx.2 hy.2),RL_add (RL_mul hx.1 hy.2) (RL_mul hx.2 hy.1)⟩
def CQ(z:QC):Fact:=CP z.re z.im
theorem CQ.keeps(z:QC):(CQ z).Keeps:=CP.keeps _ _
def PQ(x y:QC):Fact:=PP x.re x.im y.re y.im
theorem PQ.keeps(x y:QC):(PQ x y).Keeps:=PP.keeps _ _ _ _
end Go.Proofs.YthklnbaddobieaaGreat
namespace Go.Proofs.YthklnbaddobieaaGreat
open Go.RowKit Tr
end Go.Proofs.YthklnbaddobieaaGreat
namespace Go.Proofs.YthklnbaddobieaaGreat
open Go.RowKit Tr
instance:Div QC:=⟨fun x y=>⟨(x.re*y.re - x.im*(-y.im))*(y.re*y.re+y.im*y.im)⁻¹,(x.re*(-y.im)+x.im*y.re)*(y.re*y.re+y.im*y.im)⁻¹⟩⟩
end Go.Proofs.YthklnbaddobieaaGreat
namespace Go.Proofs.YthklnbaddobieaaGreat
open Go.RowKit Tr
def encQ(z:QC):Value:=encG z.re z.im
def ShortZ(z:QC):Prop:=ShortF z.re∧ShortF z.im
theorem RL_short{q:Rat}(h:ShortF q):RL q 1024:=by
 refine⟨?_,?_⟩
 ·exact Nat.le_trans (wl_size (numS_strN _)) h.1
 ·exact Nat.le_trans (wl_size (numS_strN _)) h.2
theorem ZL_short{z:QC}(h:ShortZ z):ZL z 1024:=⟨RL_short h.1,RL_short h.2⟩
end Go.Proofs.YthklnbaddobieaaGreat
namespace Tr
open Go Go.RowKit Go.Proofs.YthklnbaddobieaaGreat
theorem ZL.r{z:QC}{k:Nat}(h:ZL z k):RL z.re k:=h.1
theorem ZL.i{z:QC}{k:Nat}(h:ZL z k):RL z.im k:=h.2
end Tr
namespace Go.Proofs.YthklnbaddobieaaGreat
open Go.RowKit Tr
structure RawG where
 (n1 n2 n3 n4:Bool)
 (s1 s2 s3 s4:ByteArray)
def RawG.val(g:RawG):Value:=.agg #[.bool g.n1,.string g.s1,.bool g.n2,.string g.s2,.bool g.n3,.string g.s3,.bool g.n4,.string g.s4]
def RawG.cells(g:RawG):List GF:=[gx (.bool g.n1),gx (.string g.s1),gx (.bool g.n2),gx (.string g.s2),gx (.bool g.n3),gx (.string g.s3),gx (.bool g.n4),gx (.string g.s4)]
structure RawP where
 i:Bool
 g:RawG
def RawP.val(p:RawP):Value:=.agg #[.bool p.i,.bool p.g.n1,.string p.g.s1,.bool p.g.n2,.string p.g.s2,.bool p.g.n3,.string p.g.s3,.bool p.g.n4,.string p.g.s4]
def RawP.cells(p:RawP):List GF:=gx (.bool p.i) :: p.g.cells
def gA(i:Nat):List AC:=[.sym i,.sym (i+1),.sym (i+2),.sym (i+3),.sym (i+4),.sym (i+5),.sym (i+6),.sym (i+7)]
def pA(i:Nat):List AC:=[.sym i,.sym (i+1),.sym (i+2),.sym (i+3),.sym (i+4),.sym (i+5),.sym (i+6),.sym (i+7),.sym (i+8)]
def cG(z:QC):List GF:=cF z.re++cF z.im
def GOk(v:Value):Prop:=∃ z:QC,v=encQ z∧ShortZ z
theorem gOk_iff(g:RawG):GOk g.val↔FracOk (.agg #[.bool g.n1,.string g.s1,.bool g.n2,.string g.s2])∧FracOk (.agg #[.bool g.n3,.string g.s3,.bool g.n4,.string g.s4]):=by
 constructor
 ·rintro⟨z,e,h1,h2⟩
  unfold RawG.val encQ encG at e
  simp only[Value.agg.injEq,Array.mk.injEq,List.cons.injEq,Value.bool.injEq,Value.string.injEq,and_true] at e
  obtain⟨e1,e2,e3,e4,e5,e6,e7,e8⟩:=e
  exact⟨⟨z.re,by unfold encF; rw[e1,e2,e3,e4],h1⟩,⟨z.im,by unfold encF; rw[e5,e6,e7,e8],h2⟩⟩
 ·rintro⟨⟨a,e,h1⟩,⟨b,f,h2⟩⟩
  obtain⟨e1,e2,e3,e4⟩:=encF_parts e
  obtain⟨f1,f2,f3,f4⟩:=encF_parts f
  refine⟨⟨a,b⟩,?_,h1,h2⟩
  unfold RawG.val encQ encG
  rw[e1,e2,e3,e4,f1,f2,f3,f4]
set_option maxRecDepth 100000 in
theorem run_eql_rg(w:World)(p q:RawG)(r:Bool)(hr:r=true↔p.val=q.val):(binOp .eql 50 p.val q.val).run Tryz.prog w=.ok (.bool r) w:=by
 obtain⟨n1,n2,n3,n4,s1,s2,s3,s4⟩:=p
 obtain⟨m1,m2,m3,m4,t1,t2,t3,t4⟩:=q
 simp only[RawG.val] at hr ⊢
 simp only[Value.agg.injEq,Array.mk.injEq,List.cons.injEq,Value.bool.injEq,Value.string.injEq,and_true] at hr
 go_simp
 simp only[toL_iff]
 cases r
 ·have hn:¬(n1=m1∧s1=t1∧n2=m2∧s2=t2∧n3=m3∧s3=t3∧n4=m4∧s4=t4):=fun h=>by cases hr.2 h
  repeat' split
  all_goals first
   | rfl
   | (exfalso; apply hn; refine⟨?_,?_,?_,?_,?_,?_,?_,?_⟩<;>assumption)
 ·obtain⟨rfl,rfl,rfl,rfl,rfl,rfl,rfl,rfl⟩:=hr.1 rfl
  simp
def rawQ(z:QC):RawG:=⟨decide (z.re.num<0),false,decide (z.im.num<0),false,strN z.re.num.natAbs,strN z.re.den,strN z.im.num.natAbs,strN z.im.den⟩
theorem rawQ_val(z:QC):(rawQ z).val=encQ z:=rfl
theorem encF_inj'{x y:Rat}(h:encF x=encF y):x=y:=by
 have:=h
 unfold encF at h
 simp only[Value.agg.injEq,Array.mk.injEq,List.cons.injEq,Value.bool.injEq,Value.string.injEq,and_true,true_and] at h
 obtain⟨h1,h2,h3⟩:=h
 have e2:=strN_inj h2
 have e3:=strN_inj h3
 refine Rat.ext ?_ e3
 by_cases hx:x.num<0<;>by_cases hy:y.num<0<;>simp[hx,hy] at h1<;>omega
theorem encQ_inj'{x y:QC}(h:encQ x=encQ y):x=y:=by
 unfold encQ encG at h
 simp only[Value.agg.injEq,Array.mk.injEq,List.cons.injEq,Value.bool.injEq,Value.string.injEq,and_true,true_and] at h
 obtain⟨h1,h2,h3,h4,h5,h6⟩:=h
 have e1:x.re=y.re:=encF_inj' (by unfold encF; rw[h1,h2,h3])
 have e2:x.im=y.im:=encF_inj' (by unfold encF; rw[h4,h5,h6])
 cases x; cases y; simp_all
theorem gint(a b:Int)(a1:-9223372036854775808≤a)(a2:a<9223372036854775808)(b1:-9223372036854775808≤b)(b2:b<9223372036854775808):PureC Tryz.prog 187 [.int .i64 (a),.int .i64 (b)] ((encQ (⟨(a:Rat),(b:Rat)⟩))):=by
  exact ev_pure (hp:=false) (L:=[gx (.int .i64 (a))]++[gx (.int .i64 (b))]++cG (⟨(a:Rat),(b:Rat)⟩)) tys_ok mixed
    [gp 115 [.c (.sym 0)] (.r (.row [.sym 2,.sym 3,.lit (.bool false),.sym 4])) eo115 (fint a a1 a2) rfl rfl,gp 115 [.c (.sym 1)] (.r (.row [.sym 5,.sym 6,.lit (.bool false),.sym 7])) eo115 (fint b b1 b2) rfl rfl]
    [] []
    Tryz.func187 100 [.c (.sym 0),.c (.sym 1)] (.r (.row [.sym 2,.sym 3,.lit (.bool false),.sym 4,.sym 5,.sym 6,.lit (.bool false),.sym 7])) (by kernel_rfl) rfl rfl
theorem gzero(z:QC)(r:Bool)(hr:r=true↔z=⟨0,0⟩):PureC Tryz.prog 133 [encQ z] (.bool r):=by
  have hs:∀ q:Rat,q.num.sign=0↔q=0:=fun q=>by rw[Int.sign_eq_zero_iff_zero,Rat.num_eq_zero]
  by_cases h1:z.re=0
  · exact ev_pure (hp := false) (L := cG z ++ [gx (.int .i64 z.re.num.sign),gx (.int .i64 z.im.num.sign),gx (.bool r)]) tys_ok mixed
      [gp 52 [.row [.sym 0,.sym 1,.lit (.bool false),.sym 2]] (.r (.c (.sym 6))) eo52 (fsign z.re) rfl rfl,gp 52 [.row [.sym 3,.sym 4,.lit (.bool false),.sym 5]] (.r (.c (.sym 7))) eo52 (fsign z.im) rfl rfl]
      [gbInt .eql 3 .i64 (.sym 6) (.lit (.int .i64 0)) _ _ true (by simp only[cmpB]; rw[(hs _).2 h1]; rfl) rfl rfl,gb .eql 3 (.c (.sym 7)) (.c (.lit (.int .i64 0))) (.sym 8) (int_cmp .eql _ .i64 _ _ r (by
         simp only[cmpB]; congr 1; rw[Bool.eq_iff_iff,hr,beq_iff_eq,hs]; cases z; simp at h1; subst h1; simp)) rfl rfl rfl] []
      Tryz.func133 100 [.row [.sym 0,.sym 1,.lit (.bool false),.sym 2,.sym 3,.sym 4,.lit (.bool false),.sym 5]] (.r (.c (.sym 8))) (by kernel_rfl) rfl rfl
  · have hr':r=false:=by cases r; rfl; exact absurd (by rw[hr.1 rfl]) h1
    subst hr'
    exact ev_pure (hp:=false) (L:=cG z++[gx (.int .i64 z.re.num.sign)]) tys_ok mixed
      [gp 52 [.row [.sym 0,.sym 1,.lit (.bool false),.sym 2]] (.r (.c (.sym 6))) eo52 (fsign z.re) rfl rfl]
      [gbInt .eql 3 .i64 (.sym 6) (.lit (.int .i64 0)) _ _ false (by simp only[cmpB]; congr 1; rw[beq_eq_false_iff_ne]; exact fun h=>h1 ((hs _).1 h)) rfl rfl] []
      Tryz.func133 100 [.row [.sym 0,.sym 1,.lit (.bool false),.sym 2,.sym 3,.sym 4,.lit (.bool false),.sym 5]] (.r (.c (.lit (.bool false)))) (by kernel_rfl) rfl rfl
theorem gmay(g:RawG)(r:Bool)(hr:r=true↔GOk g.val):PureC Tryz.prog 130 [g.val] (.bool r):=by
  rw[gOk_iff] at hr
  obtain⟨a,ha⟩:∃ a:Bool,a=true↔FracOk (.agg #[.bool g.n1,.string g.s1,.bool g.n2,.string g.s2]):=by
    by_cases h:FracOk (.agg #[.bool g.n1,.string g.s1,.bool g.n2,.string g.s2])
    · exact⟨true,by simp[h]⟩
    · exact⟨false,by simp[h]⟩
  have h1:=fmay g.n1 g.n2 g.s1 g.s2 a ha
  cases a
  · have hr':r=false:=by cases r; rfl; have:=ha.2 (hr.1 rfl).1; cases this
    subst hr'
    exact ev_pure (hp:=false) (L:=g.cells) tys_ok mixed
      [gp 13 [.row (zA 0++zA 2)] (.r (.c (.lit (.bool false)))) eo13 h1 rfl rfl] [] []
      Tryz.func130 100 [.row (gA 0)] (.r (.c (.lit (.bool false)))) (by kernel_rfl) rfl rfl
  · have h2:=fmay g.n3 g.n4 g.s3 g.s4 r (by rw[hr]; exact⟨fun h=>h.2,fun h=>⟨ha.1 rfl,h⟩⟩)
    exact ev_pure (hp:=false) (L:=g.cells++[gx (.bool r)]) tys_ok mixed
      [gp 13 [.row (zA 0++zA 2)] (.r (.c (.lit (.bool true)))) eo13 h1 rfl rfl,gp 13 [.row (zA 4++zA 6)] (.r (.c (.sym 8))) eo13 h2 rfl rfl] [] []
      Tryz.func130 100 [.row (gA 0)] (.r (.c (.sym 8))) (by kernel_rfl) rfl rfl
theorem gplus(x y:QC)(hx:ZL x 134217728)(hy:ZL y 134217728):PureC Tryz.prog 219 [encQ (x),encQ (y)] ((encQ (x+y))):=by
  exact ev_pure (hp:=false) (L:=cG (x)++cG (y)++cG (x+y)) tys_ok mixed
    [gp 111 [.row [.sym 0,.sym 1,.lit (.bool false),.sym 2],.row [.sym 6,.sym 7,.lit (.bool false),.sym 8]] (.r (.row [.sym 12,.sym 13,.lit (.bool false),.sym 14])) eo111 (fplus _ _ hx.1 hy.1) rfl rfl,gp 111 [.row [.sym 3,.sym 4,.lit (.bool false),.sym 5],.row [.sym 9,.sym 10,.lit (.bool false),.sym 11]] (.r (.row [.sym 15,.sym 16,.lit (.bool false),.sym 17])) eo111 (fplus _ _ hx.2 hy.2) rfl rfl]
    [] []
    Tryz.func219 100 [.row [.sym 0,.sym 1,.lit (.bool false),.sym 2,.sym 3,.sym 4,.lit (.bool false),.sym 5],.row [.sym 6,.sym 7,.lit (.bool false),.sym 8,.sym 9,.sym 10,.lit (.bool false),.sym 11]] (.r (.row [.sym 12,.sym 13,.lit (.bool false),.sym 14,.sym 15,.sym 16,.lit (.bool false),.sym 17])) (by kernel_rfl) rfl rfl
theorem gneg(z:QC):PureC Tryz.prog 220 [encQ z] (encQ ⟨-z.re,-z.im⟩) :=
  ev_pure (hp:=false) (L:=cG z++cG ⟨-z.re,-z.im⟩) tys_ok mixed
    [gp 53 [.row [.sym 0,.sym 1,.lit (.bool false),.sym 2]] (.r (.row [.sym 6,.sym 7,.lit (.bool false),.sym 8])) eo53 (fneg z.re) rfl rfl,gp 53 [.row [.sym 3,.sym 4,.lit (.bool false),.sym 5]] (.r (.row [.sym 9,.sym 10,.lit (.bool false),.sym 11])) eo53 (fneg z.im) rfl rfl] [] []
    Tryz.func220 100 [.row [.sym 0,.sym 1,.lit (.bool false),.sym 2,.sym 3,.sym 4,.lit (.bool false),.sym 5]] (.r (.row [.sym 6,.sym 7,.lit (.bool false),.sym 8,.sym 9,.sym 10,.lit (.bool false),.sym 11])) (by kernel_rfl) rfl rfl
theorem sub_plus(x y:QC):x+⟨-y.re,-y.im⟩=x - y:=by
 show(⟨x.re+-y.re,x.im+-y.im⟩:QC)=⟨x.re - y.re,x.im - y.im⟩
 rw[Rat.sub_eq_add_neg,Rat.sub_eq_add_neg]
theorem ZL_negc{y:QC}{k:Nat}(h:ZL y k):ZL ⟨-y.re,-y.im⟩ k:=⟨RL_neg h.1,RL_neg h.2⟩
theorem gminus(x y:QC)(hx:ZL x 134217728)(hy:ZL y 134217728):PureC Tryz.prog 188 [encQ (x),encQ (y)] ((encQ (x - y))):=by
  have hp:=gplus x ⟨-y.re,-y.im⟩ hx (ZL_negc hy)
  rw[sub_plus] at hp
  exact ev_pure (hp:=false) (L:=cG (x)++cG (y)++cG (⟨-y.re,-y.im⟩)++cG (x - y)) tys_ok mixed
    [gp 220 [.row [.sym 6,.sym 7,.lit (.bool false),.sym 8,.sym 9,.sym 10,.lit (.bool false),.sym 11]] (.r (.row [.sym 12,.sym 13,.lit (.bool false),.sym 14,.sym 15,.sym 16,.lit (.bool false),.sym 17])) eo220 (gneg y) rfl rfl,gp 219 [.row [.sym 0,.sym 1,.lit (.bool false),.sym 2,.sym 3,.sym 4,.lit (.bool false),.sym 5],.row [.sym 12,.sym 13,.lit (.bool false),.sym 14,.sym 15,.sym 16,.lit (.bool false),.sym 17]] (.r (.row [.sym 18,.sym 19,.lit (.bool false),.sym 20,.sym 21,.sym 22,.lit (.bool false),.sym 23])) eo219 (hp) rfl rfl]
    [] []
    Tryz.func188 100 [.row [.sym 0,.sym 1,.lit (.bool false),.sym 2,.sym 3,.sym 4,.lit (.bool false),.sym 5],.row [.sym 6,.sym 7,.lit (.bool false),.sym 8,.sym 9,.sym 10,.lit (.bool false),.sym 11]] (.r (.row [.sym 18,.sym 19,.lit (.bool false),.sym 20,.sym 21,.sym 22,.lit (.bool false),.sym 23])) (by kernel_rfl) rfl rfl
theorem gtimes(x y:QC)(hx:ZL x 33554432)(hy:ZL y 33554432):PureC Tryz.prog 189 [encQ (x),encQ (y)] ((encQ (x*y))):=by
  exact ev_pure (hp:=false) (L:=cG (x)++cG (y)++cF (x.re*y.re)++cF (x.im*y.im)++cF (x.re*y.im)++cF (x.im*y.re)++cG (x*y)) tys_ok mixed
    [gp 114 [.row [.sym 0,.sym 1,.lit (.bool false),.sym 2],.row [.sym 6,.sym 7,.lit (.bool false),.sym 8]] (.r (.row [.sym 12,.sym 13,.lit (.bool false),.sym 14])) eo114 (ftimes _ _ (hx.1.mono (by decide)) (hy.1.mono (by decide))) rfl rfl,gp 114 [.row [.sym 3,.sym 4,.lit (.bool false),.sym 5],.row [.sym 9,.sym 10,.lit (.bool false),.sym 11]] (.r (.row [.sym 15,.sym 16,.lit (.bool false),.sym 17])) eo114 (ftimes _ _ (hx.2.mono (by decide)) (hy.2.mono (by decide))) rfl rfl,gp 47 [.row [.sym 12,.sym 13,.lit (.bool false),.sym 14],.row [.sym 15,.sym 16,.lit (.bool false),.sym 17]] (.r (.row [.sym 24,.sym 25,.lit (.bool false),.sym 26])) eo47 (fminus _ _ ((RL_mul hx.1 hy.1).mono (by decide)) ((RL_mul hx.2 hy.2).mono (by decide))) rfl rfl,gp 114 [.row [.sym 0,.sym 1,.lit (.bool false),.sym 2],.row [.sym 9,.sym 10,.lit (.bool false),.sym 11]] (.r (.row [.sym 18,.sym 19,.lit (.bool false),.sym 20])) eo114 (ftimes _ _ (hx.1.mono (by decide)) (hy.2.mono (by decide))) rfl rfl,gp 114 [.row [.sym 3,.sym 4,.lit (.bool false),.sym 5],.row [.sym 6,.sym 7,.lit (.bool false),.sym 8]] (.r (.row [.sym 21,.sym 22,.lit (.bool false),.sym 23])) eo114 (ftimes _ _ (hx.2.mono (by decide)) (hy.1.mono (by decide))) rfl rfl,gp 111 [.row [.sym 18,.sym 19,.lit (.bool false),.sym 20],.row [.sym 21,.sym 22,.lit (.bool false),.sym 23]] (.r (.row [.sym 27,.sym 28,.lit (.bool false),.sym 29])) eo111 (fplus _ _ ((RL_mul hx.1 hy.2).mono (by decide)) ((RL_mul hx.2 hy.1).mono (by decide))) rfl rfl]
    [] []
    Tryz.func189 100 [.row [.sym 0,.sym 1,.lit (.bool false),.sym 2,.sym 3,.sym 4,.lit (.bool false),.sym 5],.row [.sym 6,.sym 7,.lit (.bool false),.sym 8,.sym 9,.sym 10,.lit (.bool false),.sym 11]] (.r (.row [.sym 24,.sym 25,.lit (.bool false),.sym 26,.sym 27,.sym 28,.lit (.bool false),.sym 29])) (by kernel_rfl) rfl rfl
end Go.Proofs.YthklnbaddobieaaGreat
namespace Go.Proofs.YthklnbaddobieaaGreat
open Go.RowKit Tr
structure RawS where
 x:RawG
 y:RawG
def RawS.val(s:RawS):Value:=.agg #[.bool s.x.n1,.string s.x.s1,.bool s.x.n2,.string s.x.s2,.bool s.x.n3,.string s.x.s3,.bool s.x.n4,.string s.x.s4,.bool s.y.n1,.string s.y.s1,.bool s.y.n2,.string s.y.s2,.bool s.y.n3,.string s.y.s3,.bool s.y.n4,.string s.y.s4]
def RawS.cells(s:RawS):List GF:=s.x.cells++s.y.cells
end Go.Proofs.YthklnbaddobieaaGreat
namespace Go.Proofs.YthklnbaddobieaaGreat
open Go.RowKit Tr
def RawG.vals(g:RawG):List Value:=[.bool g.n1,.string g.s1,.bool g.n2,.string g.s2,.bool g.n3,.string g.s3,.bool g.n4,.string g.s4]
def RawP.vals(p:RawP):List Value:=.bool p.i :: p.g.vals
def syms(i n:Nat):List AC:=(List.range n).map fun k=>.sym (i+k)
theorem rawG_inj{g h:RawG}(e:g.val=h.val):g=h:=by
 obtain⟨n1,n2,n3,n4,s1,s2,s3,s4⟩:=g
 obtain⟨m1,m2,m3,m4,t1,t2,t3,t4⟩:=h
 simp only[RawG.val,Value.agg.injEq,Array.mk.injEq,List.cons.injEq,Value.bool.injEq,Value.string.injEq,and_true] at e
 obtain⟨rfl,rfl,rfl,rfl,rfl,rfl,rfl,rfl⟩:=e
 rfl
theorem gOk_raw{g:RawG}(h:GOk g.val):∃ z,g=rawQ z∧ShortZ z:=by
 obtain⟨z,e,hs⟩:=h
 exact⟨z,rawG_inj (by rw[e,rawQ_val]),hs⟩
theorem rawQ_ok{z:QC}(h:ShortZ z):GOk (rawQ z).val:=⟨z,rawQ_val z,h⟩
end Go.Proofs.YthklnbaddobieaaGreat
namespace Go.Proofs.YthklnbaddobieaaGreat
open Go.RowKit Tr
end Go.Proofs.YthklnbaddobieaaGreat
