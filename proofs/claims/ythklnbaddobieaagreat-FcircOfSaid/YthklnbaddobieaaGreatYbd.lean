/- Laws for the walk. -/
import Derived.Test.YthklnbaddobieaaGreatYbc
import Derived.ChangeKeysEq
set_option linter.unusedVariables false
set_option maxHeartbeats 4000000
namespace Tr
open Go Go.RowKit
section
variable{P:Program}{L:List GF}
def goLenS(t:TypeId)(ht:P.underlying t=some .string)(x:AC)(s:ByteArray)(res:AC)(hn:x.noown=true:=by rfl)(hx:x.gv L=some (.string s):=by rfl)(hr:res.gv L=some (.int .i64 (s.size:Nat)):=by rfl):GO P L :=
 goLenG t (.c x) res (fun w A u ty hu=>by
  have e:u=.string s:=(AC.gv_ok (x:=x) hx).1 hu
  subst e
  simp[Builtin.len_,run_underlying ht,goInt]) (by simpa[AR.noown,AR.cells] using hn) hr
theorem eqGuard_plain{t:TypeId}(h:P.eqGuardType P.depth t=false)(op:BinOp)(xo yo:Operand)(a b:Array Value)(w:World):(eqGuard op t xo yo (.agg a) (.agg b)).run P w=.ok () w:=by
 cases op<;>simp[eqGuard,h]
theorem agg_eql{t:TypeId}(h:P.eqGuardType P.depth t=false){a b:Array Value}{r:Bool}(he:∀ w,(binOp .eql t (.agg a) (.agg b)).run P w=.ok (.bool r) w):∀(xo yo:Operand) (w:World),(do eqGuard .eql t xo yo (.agg a) (.agg b); binOp .eql t (.agg a) (.agg b):Sem Value).run P w=.ok (.bool r) w:=by
 intro xo yo w
 rw[Sem.run_bind,eqGuard_plain h,Result.andThen_ok,he]
theorem agg_neq{t:TypeId}(h:P.eqGuardType P.depth t=false){a b:Array Value}{r:Bool}(he:∀ w,(binOp .eql t (.agg a) (.agg b)).run P w=.ok (.bool r) w):∀(xo yo:Operand) (w:World),(do eqGuard .neq t xo yo (.agg a) (.agg b); binOp .neq t (.agg a) (.agg b):Sem Value).run P w=.ok (.bool !r) w:=by
 intro xo yo w
 have e1:binOp .eql t (.agg a) (.agg b)=(do pure (.bool (←Op.equal t (.agg a) (.agg b)))):=rfl
 have e2:binOp .neq t (.agg a) (.agg b)=(do pure (.bool (!(←Op.equal t (.agg a) (.agg b))))):=rfl
 rw[Sem.run_bind,eqGuard_plain h,Result.andThen_ok,e2]
 have:=he w
 rw[e1,Sem.run_bind] at this
 rw[Sem.run_bind]
 cases hq:(Op.equal t (.agg a) (.agg b)).run P w with
 | ok v w' =>
  rw[hq] at this
  simp only[Result.andThen_ok,Sem.run_pure,Result.ok.injEq,Value.bool.injEq] at this ⊢
  exact⟨by rw[this.1],this.2⟩
 | halt x w'=>rw[hq] at this; cases this
end
end Tr
namespace Go.Proofs.YthklnbaddobieaaGreat
open Go.RowKit Tr
set_option maxRecDepth 100000 in
theorem run_eql_w(w:World)(n1 m1:Bool)(s1 t1:ByteArray)(r:Bool)(hr:r=true↔Value.agg #[.bool n1,.string s1]=.agg #[.bool m1,.string t1]) :
  (binOp .eql 23 (.agg #[.bool n1,.string s1]) (.agg #[.bool m1,.string t1])).run Tryz.prog w=.ok (.bool r) w:=by
 simp only[Value.agg.injEq,Array.mk.injEq,List.cons.injEq,Value.bool.injEq,Value.string.injEq,and_true] at hr
 go_simp
 simp only[toL_iff]
 cases r
 ·have hn:¬(n1=m1∧s1=t1):=fun h=>by cases hr.2 h
  repeat' split
  all_goals first
   | rfl
   | (exfalso; apply hn; refine⟨?_,?_⟩<;>assumption)
 ·obtain⟨rfl,rfl⟩:=hr.1 rfl
  simp
theorem encZ_inj{x y:Int}(h:encZ x=encZ y):x=y:=by
 unfold encZ at h
 simp only[Value.agg.injEq,Array.mk.injEq,List.cons.injEq,Value.bool.injEq,Value.string.injEq,and_true] at h
 have h2:=strN_inj h.2
 by_cases hx:x<0<;>by_cases hy:y<0<;>simp[hx,hy] at h<;>omega
theorem ffits(n1 n2:Bool)(s1 s2:ByteArray)(r:Bool)(hr:r=decide (s1.size≤1024∧s2.size≤1024)):PureC Tryz.prog 43 [.agg #[.bool n1,.string s1,.bool n2,.string s2]] (.bool r):=by
 by_cases h1:s1.size≤1024
 ·exact ev_pure (hp:=false) (L:=[gx (.bool n1),gx (.string s1),gx (.bool n2),gx (.string s2),gx (.int .i64 (s1.size:Nat)),gx (.int .i64 (s2.size:Nat)),gx (.bool r)]) tys_ok mixed []
   [gbInt .leq 3 .i64 (.sym 4) (.lit (.int .i64 1024)) _ _ true (by simp[cmpB]; omega) rfl rfl,gb .leq 3 (.c (.sym 5)) (.c (.lit (.int .i64 1024))) (.sym 6) (int_cmp .leq _ .i64 _ _ r (by simp[cmpB,hr,h1]; omega)) rfl rfl rfl]
   [goLenS 9 Tryz.underlying9 (.sym 1) s1 (.sym 4) rfl rfl rfl,goLenS 9 Tryz.underlying9 (.sym 3) s2 (.sym 5) rfl rfl rfl]
   Tryz.func43 100 [.row [.sym 0,.sym 1,.sym 2,.sym 3]] (.r (.c (.sym 6))) (by kernel_rfl) rfl rfl
 ·have hr':r=false:=by rw[hr]; simp[h1]
  subst hr'
  exact ev_pure (hp:=false) (L:=[gx (.bool n1),gx (.string s1),gx (.bool n2),gx (.string s2),gx (.int .i64 (s1.size:Nat))]) tys_ok mixed []
   [gbInt .leq 3 .i64 (.sym 4) (.lit (.int .i64 1024)) _ _ false (by simp[cmpB]; omega) rfl rfl]
   [goLenS 9 Tryz.underlying9 (.sym 1) s1 (.sym 4) rfl rfl rfl]
   Tryz.func43 100 [.row [.sym 0,.sym 1,.sym 2,.sym 3]] (.r (.c (.lit (.bool false)))) (by kernel_rfl) rfl rfl
theorem wform_cells{neg:Bool}{s:ByteArray}(h:WForm neg s):neg=decide (sgn neg (numS s)<0)∧s=strN (sgn neg (numS s)).natAbs:=by
 have:=h.enc
 unfold encZ at this
 simpa using this
theorem wform_z(z:Int):WForm (decide (z<0)) (strN z.natAbs):=by
 refine⟨fun h0=>?_,noLead_strN _⟩
 have h1:=(numS_zero (noLead_strN z.natAbs)).2 h0
 rw[numS_strN] at h1
 simp; omega
theorem WL.str{n:Nat}{s:ByteArray}{k:Nat}(h:numS s=n)(hs:s.size≤k):WL n k:=Nat.le_trans (wl_size h) hs
theorem fformed (n1 n2 : Bool) (s1 s2 : ByteArray) (h1 : s1.size ≤ 536870912) (h2 : s2.size ≤ 536870912) (r : Bool) (hr : r = true ↔ ∃ q : Rat,Value.agg #[.bool n1,.string s1,.bool n2,.string s2] = encF q) :
    PureC Tryz.prog 44 [.agg #[.bool n1,.string s1,.bool n2,.string s2]] (.bool r):=by
  by_cases w1:WForm n1 s1
  · by_cases w2:WForm n2 s2
    · obtain⟨e1,e2⟩:=wform_cells w1
      obtain⟨e3,e4⟩:=wform_cells w2
      have la:WL (sgn n1 (numS s1)).natAbs 536870912:=by rw[natAbs_sgn]; exact WL.str rfl h1
      have lb:WL (sgn n2 (numS s2)).natAbs 536870912:=by rw[natAbs_sgn]; exact WL.str rfl h2
      obtain⟨a,ha⟩:∃ a,a=sgn n1 (numS s1):=⟨_,rfl⟩
      obtain⟨b,hb⟩:∃ b,b=sgn n2 (numS s2):=⟨_,rfl⟩
      rw[←ha] at e1 e2 la
      rw[←hb] at e3 e4 lb
      clear ha hb
      subst e1; subst e2; subst e3; subst e4
      have hq:(∃ q:Rat,Value.agg #[.bool (decide (a<0)),.string (strN a.natAbs),.bool (decide (b<0)),.string (strN b.natAbs)]=encF q)↔0<b∧Nat.gcd a.natAbs b.natAbs=1:=by
        constructor
        · rintro⟨q,hq⟩
          obtain⟨k1,k2,k3,k4⟩:=encF_parts hq
          have k5:=strN_inj k4
          have k6:=strN_inj k2
          have k7:=q.den_nz
          have k8:=q.reduced
          have k9:¬b<0:=by simpa using k3
          refine⟨by omega,?_⟩
          rw[k5,k6]; exact k8
        · rintro⟨k1,k2⟩
          refine⟨⟨a,b.natAbs,by omega,k2⟩,?_⟩
          unfold encF
          have:¬b<0:=by omega
          simp[this]
      rw[hq] at hr
      have f1:=sformed (decide (a<0)) (strN a.natAbs) true (by simp[w1])
      have f2:=sformed (decide (b<0)) (strN b.natAbs) true (by simp[w2])
      by_cases hb:0<b
      · have ho:=sof 1 (by decide) (by decide)
        have hg:=sgcd a b la lb
        obtain⟨g,hgd⟩:∃ g,g=Nat.gcd a.natAbs b.natAbs:=⟨_,rfl⟩
        rw[←hgd] at hg hr
        exact ev_pure (hp:=false) (L:=cz a++cz b++cz (g:Int)++cz 1++[gx (.bool r),gx (.int .i64 b.sign)]) tys_ok mixed
          [gp 105 [.row (zA 0)] (.r (.c (.lit (.bool true)))) eo105 f1 rfl rfl,gp 105 [.row (zA 2)] (.r (.c (.lit (.bool true)))) eo105 f2 rfl rfl,gp 106 [.row (zA 2)] (.r (.c (.sym 9))) eo106 (ssign b) rfl rfl,gp 107 [.row (zA 0),.row (zA 2)] (.r (.row (zA 4))) eo107 hg rfl rfl,gp 79 [.c (.lit (.int .i64 1))] (.r (.row (zA 6))) eo79 ho rfl rfl]
          [gbInt .leq 3 .i64 (.sym 9) (.lit (.int .i64 0)) _ _ false (by rw[Int.sign_eq_one_of_pos hb]; rfl) rfl rfl,gb .eql 23 (.row (zA 4)) (.row (zA 6)) (.sym 8) (agg_eql (by kernel_rfl) (fun w=>run_eql_w w _ _ _ _ r (by
             rw[hr]; constructor
             · rintro⟨_,h⟩; rw[h]; rfl
             · intro h; have:=encZ_inj (x:=(g:Int)) (y:=1) h; exact⟨hb,by omega⟩))) rfl rfl rfl] []
          Tryz.func44 100 [.row (zA 0++zA 2)] (.r (.c (.sym 8))) (by kernel_rfl) rfl rfl
      · have hr':r=false:=by cases r; rfl; exact absurd (hr.1 rfl).1 hb
        subst hr'
        exact ev_pure (hp:=false) (L:=cz a++cz b++[gx (.int .i64 b.sign)]) tys_ok mixed
          [gp 105 [.row (zA 0)] (.r (.c (.lit (.bool true)))) eo105 f1 rfl rfl,gp 105 [.row (zA 2)] (.r (.c (.lit (.bool true)))) eo105 f2 rfl rfl,gp 106 [.row (zA 2)] (.r (.c (.sym 4))) eo106 (ssign b) rfl rfl]
          [gbInt .leq 3 .i64 (.sym 4) (.lit (.int .i64 0)) _ _ true (by
            have:b.sign≤0:=by rcases Int.lt_trichotomy b 0 with h|h|h<;>first|(rw[Int.sign_eq_neg_one_of_neg h]; decide)|(subst h; decide)|omega
            simp[cmpB,this]) rfl rfl] []
          Tryz.func44 100 [.row (zA 0++zA 2)] (.r (.c (.lit (.bool false)))) (by kernel_rfl) rfl rfl
    · have hr' : r = false := by
        cases r; rfl
        obtain⟨q,e⟩:=hr.1 rfl
        obtain⟨k1,k2,k3,k4⟩:=encF_parts e
        exfalso; apply w2
        have:=wform_z (q.den:Int)
        rw[show decide ((q.den:Int)<0)=false by simp] at this
        rw[k3,k4]; simpa using this
      subst hr'
      exact ev_pure (hp:=false) (L:=[gx (.bool n1),gx (.string s1),gx (.bool n2),gx (.string s2)]) tys_ok mixed
        [gp 105 [.row (zA 0)] (.r (.c (.lit (.bool true)))) eo105 (sformed n1 s1 true (by simp[w1])) rfl rfl,gp 105 [.row (zA 2)] (.r (.c (.lit (.bool false)))) eo105 (sformed n2 s2 false (by simp[w2])) rfl rfl] [] []
        Tryz.func44 100 [.row (zA 0++zA 2)] (.r (.c (.lit (.bool false)))) (by kernel_rfl) rfl rfl
  · have hr' : r = false := by
      cases r; rfl
      obtain⟨q,e⟩:=hr.1 rfl
      obtain⟨k1,k2,k3,k4⟩:=encF_parts e
      exfalso; apply w1
      rw[k1,k2]; exact wform_z _
    subst hr'
    exact ev_pure (hp:=false) (L:=[gx (.bool n1),gx (.string s1),gx (.bool n2),gx (.string s2)]) tys_ok mixed
      [gp 105 [.row (zA 0)] (.r (.c (.lit (.bool false)))) eo105 (sformed n1 s1 false (by simp[w1])) rfl rfl] [] []
      Tryz.func44 100 [.row (zA 0++zA 2)] (.r (.c (.lit (.bool false)))) (by kernel_rfl) rfl rfl
theorem fmay (n1 n2 : Bool) (s1 s2 : ByteArray) (r : Bool) (hr : r = true ↔ FracOk (.agg #[.bool n1,.string s1,.bool n2,.string s2])) :
    PureC Tryz.prog 13 [.agg #[.bool n1,.string s1,.bool n2,.string s2]] (.bool r):=by
  by_cases h:s1.size≤1024∧s2.size≤1024
  · have hf := fformed n1 n2 s1 s2 (by omega) (by omega) r (by
      rw[hr]
      constructor
      · rintro⟨q,e,_⟩; exact⟨q,e⟩
      · rintro⟨q,e⟩
        obtain⟨k1,k2,k3,k4⟩:=encF_parts e
        exact⟨q,e,by rw[←k2]; exact h.1,by rw[←k4]; exact h.2⟩)
    exact ev_pure (hp:=false) (L:=[gx (.bool n1),gx (.string s1),gx (.bool n2),gx (.string s2),gx (.bool r)]) tys_ok mixed
      [gp 43 [.row (zA 0++zA 2)] (.r (.c (.lit (.bool true)))) eo43 (ffits n1 n2 s1 s2 true (by simp[h])) rfl rfl,gp 44 [.row (zA 0++zA 2)] (.r (.c (.sym 4))) eo44 hf rfl rfl] [] []
      Tryz.func13 100 [.row (zA 0++zA 2)] (.r (.c (.sym 4))) (by kernel_rfl) rfl rfl
  · have hr' : r = false := by
      cases r; rfl
      obtain⟨q,e,k⟩:=hr.1 rfl
      obtain⟨k1,k2,k3,k4⟩:=encF_parts e
      exfalso; apply h
      rw[k2,k4]; exact k
    subst hr'
    exact ev_pure (hp:=false) (L:=[gx (.bool n1),gx (.string s1),gx (.bool n2),gx (.string s2)]) tys_ok mixed
      [gp 43 [.row (zA 0++zA 2)] (.r (.c (.lit (.bool false)))) eo43 (ffits n1 n2 s1 s2 false (by simp[h])) rfl rfl] [] []
      Tryz.func13 100 [.row (zA 0++zA 2)] (.r (.c (.lit (.bool false)))) (by kernel_rfl) rfl rfl
end Go.Proofs.YthklnbaddobieaaGreat
namespace Go.Proofs.YthklnbaddobieaaGreat
open Go.RowKit Tr
def RatB(base:Nat)(q:Rat):Fact:=fun v w A=>∃ m C,v=.pointer (some ⟨m,0,none⟩)∧base≤m∧¬A m∧w.heap[m]?=some (.cells C 133 (0,0))∧C.size=4∧NoW (.cells C 133 (0,0))∧RatP q v w A
theorem RatB.keeps(base:Nat)(q:Rat):(RatB base q).Keeps:=by
 intro v w w' A A' hs hk ⟨m,C,h1,h2,h3,h4,h5,h6,h7⟩
 obtain⟨k1,k2⟩:=hk m (Array.getElem?_eq_some_iff.1 h4).1 h3
 exact⟨m,C,h1,h2,k2,k1.trans h4,h5,h6,RatP.keeps q _ _ _ _ _ hs hk h7⟩
def CP(a b:Rat):Fact:=fun v w A=>∃ u1 u2,v=.agg #[u1,u2]∧RatP a u1 w A∧RatP b u2 w A
theorem CP.keeps(a b:Rat):(CP a b).Keeps:=fun v w w' A A' hs hk ⟨u1,u2,h1,h2,h3⟩=>⟨u1,u2,h1,RatP.keeps a _ _ _ _ _ hs hk h2,RatP.keeps b _ _ _ _ _ hs hk h3⟩
theorem CP.below{a b:Rat}{v:Value}{w w':World}{A:Nat→Prop}(h:CP a b v w A)(hb:Below w.heap.size w w'):CP a b v w' A:=Fact.Keeps.below (CP.keeps a b) hb h
end Go.Proofs.YthklnbaddobieaaGreat
namespace Go.Proofs.YthklnbaddobieaaGreat
open Go.RowKit Tr
end Go.Proofs.YthklnbaddobieaaGreat
namespace Go.Proofs.YthklnbaddobieaaGreat
open Go.RowKit Tr
set_option maxRecDepth 100000 in
theorem XRat_any(n1 n2:Bool)(s1 s2:ByteArray)(hd0:numS s2≠0)(h1:s1.size<274877906944)(h2:s2.size<274877906944)(w:World) :
  Calls Tryz.prog 35 #[.agg #[.bool n1,.string s1,.bool n2,.string s2]] w fun e w'=>∃ v,e=.returned v∧NewR (Rat.divInt (sgn n1 (numS s1)) (sgn n2 (numS s2))) v w w':=by
 have hdz:sgn n2 (numS s2)≠0:=by unfold sgn; cases n2<;>simp<;>omega
 have HZ:=Lib.hid hdz
 have l1:(words (sgn n1 (numS s1)).natAbs).length<274877906944:=by rw[natAbs_sgn]; exact Nat.lt_of_le_of_lt (words_length_le (k:=s1.size) (Nat.lt_of_lt_of_le (numS_lt s1) (Nat.pow_le_pow_left (by decide) _))) h1
 have l2:(words (sgn n2 (numS s2)).natAbs).length<274877906944:=by rw[natAbs_sgn]; exact Nat.lt_of_le_of_lt (words_length_le (k:=s2.size) (Nat.lt_of_lt_of_le (numS_lt s2) (Nat.pow_le_pow_left (by decide) _))) h2
 have HL:=Lib.hid (And.intro l1 l2)
 clear hdz hd0 l1 l2
 go_enter Tryz.func35,Tryz.ntmps35
 go_wp2_with fail
 obtain⟨W,hW⟩:∃ W,W=w.alloc (.cells #[.bool n1,.string s1,.bool n2,.string s2] 25):=⟨_,rfl⟩
 have hB:Below w.heap.size w W:=by rw[hW]; exact br.alloc (Nat.le_refl _) _
 have hWs:w.heap.size<W.heap.size:=by rw[hW]; simp
 obtain⟨e0,e1,e2,e3,_⟩:=new_four w (.bool n1) (.string s1) (.bool n2) (.string s2) 25 br
 rw[←hW] at e0 e1 e2 e3 ⊢
 clear hW
 refine wp_region_inv [(.new zR,[]),(.lit,[]),(.lit,[]),(.val,[]),(.lit,[]),(.lit,[]),(.val,[]),(.on 0 zR,[3,6])]
  (pickF [(3,IntP (sgn n1 (numS s1))),(6,IntP (sgn n2 (numS s2))),(7,RatM W.heap.size (Rat.divInt (sgn n1 (numS s1)) (sgn n2 (numS s2))))]) (by kernel_rfl) ?_ ?_ (by simp[noW_zRat]) (by simp) (by kernel_rfl)
 ·exact keeps_pick (by simp[IntP.keeps,RatM.keeps])
 ·refine⟨fun f w1=>by go_simp,?_⟩
  repeat (refine⟨_,fun f w1 h1=>by(have d0:=ct h1 hWs e0; have d1:=ct h1 hWs e1; have d2:=ct h1 hWs e2; have d3:=ct h1 hWs e3; go_simp; rfl),?_⟩)
  simp only[Act.put,nrA,nrB,nrC,Nat.reduceAdd]
  refine⟨fun f w1 A1 k1 hA hN hd K hK=>by
   go_simp
   refine(xnumber_any n1 s1 h1 w1).mono ?_
   rintro e w' ⟨v,rfl,hn⟩
   exact hK _ _ hn.1 (hn.2 A1 hA),?_⟩
  repeat (refine⟨_,fun f w1 h1=>by(have d0:=ct h1 hWs e0; have d1:=ct h1 hWs e1; have d2:=ct h1 hWs e2; have d3:=ct h1 hWs e3; go_simp; rfl),?_⟩)
  simp only[Act.put,nrA,nrB,nrC,Nat.reduceAdd]
  refine⟨fun f w1 A1 k1 hA hN hd K hK=>by
   go_simp
   refine(xnumber_any n2 s2 h2 w1).mono ?_
   rintro e w' ⟨v,rfl,hn⟩
   exact hK _ _ hn.1 (hn.2 A1 hA),?_⟩
  simp only[Act.put,nrA,nrB,nrC,Nat.reduceAdd]
  refine⟨fun f w1 A1 m1 k1 hA hN hAm hm0 e hz hd K hK=>by
   simp only[e] at hK ⊢
   have i1:IntP (sgn n1 (numS s1)) (f 3) w1 A1:=hd 3 (by simp)
   have i2:IntP (sgn n2 (numS s2)) (f 6) w1 A1:=hd 6 (by simp)
   go_simp
   refine(SetFrac_any m1 _ _ _ HZ.out _ _ A1 w1 hz (by decide) noW_zRat i1 i2 HL.out.1 HL.out.2).mono ?_
   rintro e w' ⟨rfl,hp⟩
   exact hK _ w' hp.1 (hp.ratM hm0 hA),?_⟩
  intro f w1 k1 hF
  have i1:RatM W.heap.size (Rat.divInt (sgn n1 (numS s1)) (sgn n2 (numS s2))) (f 7) w1 NoA:=hF.2
  clear hF
  simp only[Act.put,nrA,nrB,nrC]
  generalize f 3=v3
  generalize f 6=v6
  generalize f 7=v7 at *
  have hbw:Below W.heap.size W w1:=br.drew.trans k1
  have hn:=i1.new (hB.trans (hbw.mono hB.size)) hB.size
  have HN:=Lib.hid hn
  clear hn i1
  go_wp2
  go_ret
  exact⟨v7,rfl,HN.out⟩
end Go.Proofs.YthklnbaddobieaaGreat
namespace Go.Proofs.YthklnbaddobieaaGreat
open Go.RowKit Tr
end Go.Proofs.YthklnbaddobieaaGreat
namespace Go.Proofs.YthklnbaddobieaaGreat
open Go.RowKit Tr
end Go.Proofs.YthklnbaddobieaaGreat
namespace Go.Proofs.YthklnbaddobieaaGreat
open Go.RowKit Tr
def encG(a b:Rat):Value:=.agg #[.bool (decide (a.num<0)),.string (strN a.num.natAbs),.bool false,.string (strN a.den),.bool (decide (b.num<0)),.string (strN b.num.natAbs),.bool false,.string (strN b.den)]
theorem new_eight(w:World)(x0 x1 x2 x3 x4 x5 x6 x7:Value)(T:TypeId){w1:World}(h:Below (w.alloc (.cells #[x0,x1,x2,x3,x4,x5,x6,x7] T)).heap.size (w.alloc (.cells #[x0,x1,x2,x3,x4,x5,x6,x7] T)) w1) :
  w1.cell? ⟨w.heap.size,0,none⟩=some x0∧w1.cell? ⟨w.heap.size,1,none⟩=some x1∧w1.cell? ⟨w.heap.size,2,none⟩=some x2∧w1.cell? ⟨w.heap.size,3,none⟩=some x3∧w1.cell? ⟨w.heap.size,4,none⟩=some x4∧w1.cell? ⟨w.heap.size,5,none⟩=some x5∧w1.cell? ⟨w.heap.size,6,none⟩=some x6∧w1.cell? ⟨w.heap.size,7,none⟩=some x7:=by
 have e:=(h.block w.heap.size (by simp)).trans (heap_alloc_new w _)
 simp[World.cell?,e]
open Classical in
noncomputable def okB(n1 n2:Bool)(s1 s2:ByteArray):Bool:=decide (FracOk (.agg #[.bool n1,.string s1,.bool n2,.string s2]))
theorem okB_iff{n1 n2:Bool}{s1 s2:ByteArray}:okB n1 n2 s1 s2=true↔FracOk (.agg #[.bool n1,.string s1,.bool n2,.string s2]):=by unfold okB; simp
set_option maxRecDepth 100000 in
theorem GMay_any(n1 n2 n3 n4:Bool)(s1 s2 s3 s4:ByteArray)(l1:s1.size<274877906944)(l2:s2.size<274877906944)(l3:s3.size<274877906944)(l4:s4.size<274877906944)(w:World) :
  Calls Tryz.prog 128 #[.agg #[.bool n1,.string s1,.bool n2,.string s2,.bool n3,.string s3,.bool n4,.string s4]] w fun e w'=>e=.returned (.bool (okB n1 n2 s1 s2 && okB n3 n4 s3 s4))∧Below w.heap.size w w':=by
 have H1:=Lib.hid (fun w=>May_any n1 n2 s1 s2 l1 l2 _ okB_iff w)
 have H2:=Lib.hid (fun w=>May_any n3 n4 s3 s4 l3 l4 _ okB_iff w)
 have HA:=Lib.hid (show Below w.heap.size w (w.alloc (.cells #[.bool n1,.string s1,.bool n2,.string s2,.bool n3,.string s3,.bool n4,.string s4] 50)) from br.alloc (Nat.le_refl _) _)
 go_enter Tryz.func128,Tryz.ntmps128
 go_wp2_with fail
 refine(H1.out _).mono ?_
 rintro e w1 ⟨rfl,hb1⟩
 obtain⟨e0,e1,e2,e3,e4,e5,e6,e7⟩:=new_eight w _ _ _ _ _ _ _ _ _ hb1
 cases c1:okB n1 n2 s1 s2
 ·have HB:=Lib.hid (HA.out.trans (hb1.mono (by simp)))
  clear hb1
  go_wp2
  all_goals go_ret
  all_goals exact⟨by rw[c1]; rfl,HB.out⟩
 ·go_wp2_with fail
  refine(H2.out _).mono ?_
  rintro e w2 ⟨rfl,hb2⟩
  have HB:=Lib.hid (HA.out.trans ((hb1.trans (hb2.mono hb1.size)).mono (by simp)))
  clear hb1 hb2
  obtain⟨c2,hc2⟩:∃ c2,c2=okB n3 n4 s3 s4:=⟨_,rfl⟩
  rw[←hc2]
  have HC:=Lib.hid hc2
  clear hc2
  go_wp2
  all_goals go_ret
  all_goals exact⟨by rw[c1,←HC.out]; cases c2<;>rfl,HB.out⟩
end Go.Proofs.YthklnbaddobieaaGreat
namespace Go.Proofs.YthklnbaddobieaaGreat
open Go.RowKit Tr
end Go.Proofs.YthklnbaddobieaaGreat
namespace Go.Proofs.YthklnbaddobieaaGreat
open Go.RowKit Tr
def PP(a b c d:Rat):Fact:=fun v w A=>∃ u1 u2 u3 u4,v=.agg #[u1,u2,u3,u4]∧RatP a u1 w A∧RatP b u2 w A∧RatP c u3 w A∧RatP d u4 w A
theorem PP.keeps(a b c d:Rat):(PP a b c d).Keeps:=fun v w w' A A' hs hk ⟨u1,u2,u3,u4,h0,h1,h2,h3,h4⟩=>⟨u1,u2,u3,u4,h0,RatP.keeps a _ _ _ _ _ hs hk h1,RatP.keeps b _ _ _ _ _ hs hk h2,RatP.keeps c _ _ _ _ _ hs hk h3,RatP.keeps d _ _ _ _ _ hs hk h4⟩
end Go.Proofs.YthklnbaddobieaaGreat
namespace Go.Proofs.YthklnbaddobieaaGreat
open Go.RowKit Tr
structure QC where
 re:Rat
 im:Rat
 deriving DecidableEq
namespace QC
instance:Mul QC:=⟨fun x y=>⟨x.re*y.re - x.im*y.im,x.re*y.im+x.im*y.re⟩⟩
instance:Add QC:=⟨fun x y=>⟨x.re+y.re,x.im+y.im⟩⟩
instance:Sub QC:=⟨fun x y=>⟨x.re - y.re,x.im - y.im⟩⟩
end QC
def ZL(z:QC)(k:Nat):Prop:=RL z.re k∧RL z.im k
theorem ZL.mono{z:QC}{k l:Nat}(h:ZL z k)(hl:k≤l):ZL z l:=⟨h.1.mono hl,h.2.mono hl⟩
def CQ(z:QC):Fact:=CP z.re z.im
theorem CQ.keeps(z:QC):(CQ z).Keeps:=CP.keeps _ _
def PQ(x y:QC):Fact:=PP x.re x.im y.re y.im
theorem PQ.keeps(x y:QC):(PQ x y).Keeps:=PP.keeps _ _ _ _
end Go.Proofs.YthklnbaddobieaaGreat
namespace Go.Proofs.YthklnbaddobieaaGreat
open Go.RowKit Tr
end Go.Proofs.YthklnbaddobieaaGreat
namespace Go.Proofs.YthklnbaddobieaaGreat
open Go.RowKit Tr
instance:Div QC:=⟨fun x y=>⟨(x.re*y.re - x.im*(-y.im))*(y.re*y.re+y.im*y.im)⁻¹,(x.re*(-y.im)+x.im*y.re)*(y.re*y.re+y.im*y.im)⁻¹⟩⟩
end Go.Proofs.YthklnbaddobieaaGreat
namespace Go.Proofs.YthklnbaddobieaaGreat
open Go.RowKit Tr
def encQ(z:QC):Value:=encG z.re z.im
def ShortZ(z:QC):Prop:=ShortF z.re∧ShortF z.im
theorem RL_short{q:Rat}(h:ShortF q):RL q 1024:=by
 refine⟨?_,?_⟩
 ·exact Nat.le_trans (wl_size (numS_strN _)) h.1
 ·exact Nat.le_trans (wl_size (numS_strN _)) h.2
theorem ZL_short{z:QC}(h:ShortZ z):ZL z 1024:=⟨RL_short h.1,RL_short h.2⟩
end Go.Proofs.YthklnbaddobieaaGreat
namespace Tr
open Go Go.RowKit Go.Proofs.YthklnbaddobieaaGreat
theorem ZL.r{z:QC}{k:Nat}(h:ZL z k):RL z.re k:=h.1
theorem ZL.i{z:QC}{k:Nat}(h:ZL z k):RL z.im k:=h.2
end Tr
namespace Go.Proofs.YthklnbaddobieaaGreat
open Go.RowKit Tr
structure RawG where
 (n1 n2 n3 n4:Bool)
 (s1 s2 s3 s4:ByteArray)
def RawG.val(g:RawG):Value:=.agg #[.bool g.n1,.string g.s1,.bool g.n2,.string g.s2,.bool g.n3,.string g.s3,.bool g.n4,.string g.s4]
def RawG.cells(g:RawG):List GF:=[gx (.bool g.n1),gx (.string g.s1),gx (.bool g.n2),gx (.string g.s2),gx (.bool g.n3),gx (.string g.s3),gx (.bool g.n4),gx (.string g.s4)]
structure RawP where
 i:Bool
 g:RawG
def RawP.val(p:RawP):Value:=.agg #[.bool p.i,.bool p.g.n1,.string p.g.s1,.bool p.g.n2,.string p.g.s2,.bool p.g.n3,.string p.g.s3,.bool p.g.n4,.string p.g.s4]
def RawP.cells(p:RawP):List GF:=gx (.bool p.i) :: p.g.cells
def gA(i:Nat):List AC:=[.sym i,.sym (i+1),.sym (i+2),.sym (i+3),.sym (i+4),.sym (i+5),.sym (i+6),.sym (i+7)]
def pA(i:Nat):List AC:=[.sym i,.sym (i+1),.sym (i+2),.sym (i+3),.sym (i+4),.sym (i+5),.sym (i+6),.sym (i+7),.sym (i+8)]
def cG(z:QC):List GF:=cF z.re++cF z.im
def GOk(v:Value):Prop:=∃ z:QC,v=encQ z∧ShortZ z
theorem gOk_iff(g:RawG):GOk g.val↔FracOk (.agg #[.bool g.n1,.string g.s1,.bool g.n2,.string g.s2])∧FracOk (.agg #[.bool g.n3,.string g.s3,.bool g.n4,.string g.s4]):=by
 constructor
 ·rintro⟨z,e,h1,h2⟩
  unfold RawG.val encQ encG at e
  simp only[Value.agg.injEq,Array.mk.injEq,List.cons.injEq,Value.bool.injEq,Value.string.injEq,and_true] at e
  obtain⟨e1,e2,e3,e4,e5,e6,e7,e8⟩:=e
  exact⟨⟨z.re,by unfold encF; rw[e1,e2,e3,e4],h1⟩,⟨z.im,by unfold encF; rw[e5,e6,e7,e8],h2⟩⟩
 ·rintro⟨⟨a,e,h1⟩,⟨b,f,h2⟩⟩
  obtain⟨e1,e2,e3,e4⟩:=encF_parts e
  obtain⟨f1,f2,f3,f4⟩:=encF_parts f
  refine⟨⟨a,b⟩,?_,h1,h2⟩
  unfold RawG.val encQ encG
  rw[e1,e2,e3,e4,f1,f2,f3,f4]
def rawQ(z:QC):RawG:=⟨decide (z.re.num<0),false,decide (z.im.num<0),false,strN z.re.num.natAbs,strN z.re.den,strN z.im.num.natAbs,strN z.im.den⟩
theorem rawQ_val(z:QC):(rawQ z).val=encQ z:=rfl
theorem encF_inj'{x y:Rat}(h:encF x=encF y):x=y:=by
 have:=h
 unfold encF at h
 simp only[Value.agg.injEq,Array.mk.injEq,List.cons.injEq,Value.bool.injEq,Value.string.injEq,and_true,true_and] at h
 obtain⟨h1,h2,h3⟩:=h
 have e2:=strN_inj h2
 have e3:=strN_inj h3
 refine Rat.ext ?_ e3
 by_cases hx:x.num<0<;>by_cases hy:y.num<0<;>simp[hx,hy] at h1<;>omega
theorem encQ_inj'{x y:QC}(h:encQ x=encQ y):x=y:=by
 unfold encQ encG at h
 simp only[Value.agg.injEq,Array.mk.injEq,List.cons.injEq,Value.bool.injEq,Value.string.injEq,and_true,true_and] at h
 obtain⟨h1,h2,h3,h4,h5,h6⟩:=h
 have e1:x.re=y.re:=encF_inj' (by unfold encF; rw[h1,h2,h3])
 have e2:x.im=y.im:=encF_inj' (by unfold encF; rw[h4,h5,h6])
 cases x; cases y; simp_all
theorem gmay(g:RawG)(r:Bool)(hr:r=true↔GOk g.val):PureC Tryz.prog 130 [g.val] (.bool r):=by
  rw[gOk_iff] at hr
  obtain⟨a,ha⟩:∃ a:Bool,a=true↔FracOk (.agg #[.bool g.n1,.string g.s1,.bool g.n2,.string g.s2]):=by
    by_cases h:FracOk (.agg #[.bool g.n1,.string g.s1,.bool g.n2,.string g.s2])
    · exact⟨true,by simp[h]⟩
    · exact⟨false,by simp[h]⟩
  have h1:=fmay g.n1 g.n2 g.s1 g.s2 a ha
  cases a
  · have hr':r=false:=by cases r; rfl; have:=ha.2 (hr.1 rfl).1; cases this
    subst hr'
    exact ev_pure (hp:=false) (L:=g.cells) tys_ok mixed
      [gp 13 [.row (zA 0++zA 2)] (.r (.c (.lit (.bool false)))) eo13 h1 rfl rfl] [] []
      Tryz.func130 100 [.row (gA 0)] (.r (.c (.lit (.bool false)))) (by kernel_rfl) rfl rfl
  · have h2:=fmay g.n3 g.n4 g.s3 g.s4 r (by rw[hr]; exact⟨fun h=>h.2,fun h=>⟨ha.1 rfl,h⟩⟩)
    exact ev_pure (hp:=false) (L:=g.cells++[gx (.bool r)]) tys_ok mixed
      [gp 13 [.row (zA 0++zA 2)] (.r (.c (.lit (.bool true)))) eo13 h1 rfl rfl,gp 13 [.row (zA 4++zA 6)] (.r (.c (.sym 8))) eo13 h2 rfl rfl] [] []
      Tryz.func130 100 [.row (gA 0)] (.r (.c (.sym 8))) (by kernel_rfl) rfl rfl
theorem gdot(x y:QC)(hx:ZL x 33554432)(hy:ZL y 33554432):PureC Tryz.prog 228 [encQ (x),encQ (y)] ((encF (x.re*y.re+x.im*y.im))):=by
  exact ev_pure (hp:=false) (L:=cG (x)++cG (y)++cF (x.re*y.re)++cF (x.im*y.im)++cF (x.re*y.re+x.im*y.im)) tys_ok mixed
    [gp 114 [.row [.sym 0,.sym 1,.lit (.bool false),.sym 2],.row [.sym 6,.sym 7,.lit (.bool false),.sym 8]] (.r (.row [.sym 12,.sym 13,.lit (.bool false),.sym 14])) eo114 (ftimes _ _ (hx.1.mono (by decide)) (hy.1.mono (by decide))) rfl rfl,gp 114 [.row [.sym 3,.sym 4,.lit (.bool false),.sym 5],.row [.sym 9,.sym 10,.lit (.bool false),.sym 11]] (.r (.row [.sym 15,.sym 16,.lit (.bool false),.sym 17])) eo114 (ftimes _ _ (hx.2.mono (by decide)) (hy.2.mono (by decide))) rfl rfl,gp 111 [.row [.sym 12,.sym 13,.lit (.bool false),.sym 14],.row [.sym 15,.sym 16,.lit (.bool false),.sym 17]] (.r (.row [.sym 18,.sym 19,.lit (.bool false),.sym 20])) eo111 (fplus _ _ ((RL_mul hx.1 hy.1).mono (by decide)) ((RL_mul hx.2 hy.2).mono (by decide))) rfl rfl]
    [] []
    Tryz.func228 100 [.row [.sym 0,.sym 1,.lit (.bool false),.sym 2,.sym 3,.sym 4,.lit (.bool false),.sym 5],.row [.sym 6,.sym 7,.lit (.bool false),.sym 8,.sym 9,.sym 10,.lit (.bool false),.sym 11]] (.r (.row [.sym 18,.sym 19,.lit (.bool false),.sym 20])) (by kernel_rfl) rfl rfl
theorem gnorm(x:QC)(hx:ZL x 33554432):PureC Tryz.prog 196 [encQ (x)] ((encF (x.re*x.re+x.im*x.im))):=by
 exact ev_pure (hp:=false) (L:=cG (x)++cF (x.re*x.re+x.im*x.im)) tys_ok mixed
  [gp 228 [.row [.sym 0,.sym 1,.lit (.bool false),.sym 2,.sym 3,.sym 4,.lit (.bool false),.sym 5],.row [.sym 0,.sym 1,.lit (.bool false),.sym 2,.sym 3,.sym 4,.lit (.bool false),.sym 5]] (.r (.row [.sym 6,.sym 7,.lit (.bool false),.sym 8])) eo228 (gdot x x hx hx) rfl rfl]
  [] []
  Tryz.func196 100 [.row [.sym 0,.sym 1,.lit (.bool false),.sym 2,.sym 3,.sym 4,.lit (.bool false),.sym 5]] (.r (.row [.sym 6,.sym 7,.lit (.bool false),.sym 8])) (by kernel_rfl) rfl rfl
end Go.Proofs.YthklnbaddobieaaGreat
namespace Go.Proofs.YthklnbaddobieaaGreat
open Go.RowKit Tr
structure RawS where
 x:RawG
 y:RawG
def RawS.val(s:RawS):Value:=.agg #[.bool s.x.n1,.string s.x.s1,.bool s.x.n2,.string s.x.s2,.bool s.x.n3,.string s.x.s3,.bool s.x.n4,.string s.x.s4,.bool s.y.n1,.string s.y.s1,.bool s.y.n2,.string s.y.s2,.bool s.y.n3,.string s.y.s3,.bool s.y.n4,.string s.y.s4]
def RawS.cells(s:RawS):List GF:=s.x.cells++s.y.cells
end Go.Proofs.YthklnbaddobieaaGreat
namespace Go.Proofs.YthklnbaddobieaaGreat
open Go.RowKit Tr
def RawG.vals(g:RawG):List Value:=[.bool g.n1,.string g.s1,.bool g.n2,.string g.s2,.bool g.n3,.string g.s3,.bool g.n4,.string g.s4]
def RawP.vals(p:RawP):List Value:=.bool p.i :: p.g.vals
def syms(i n:Nat):List AC:=(List.range n).map fun k=>.sym (i+k)
theorem rawG_inj{g h:RawG}(e:g.val=h.val):g=h:=by
 obtain⟨n1,n2,n3,n4,s1,s2,s3,s4⟩:=g
 obtain⟨m1,m2,m3,m4,t1,t2,t3,t4⟩:=h
 simp only[RawG.val,Value.agg.injEq,Array.mk.injEq,List.cons.injEq,Value.bool.injEq,Value.string.injEq,and_true] at e
 obtain⟨rfl,rfl,rfl,rfl,rfl,rfl,rfl,rfl⟩:=e
 rfl
theorem gOk_raw{g:RawG}(h:GOk g.val):∃ z,g=rawQ z∧ShortZ z:=by
 obtain⟨z,e,hs⟩:=h
 exact⟨z,rawG_inj (by rw[e,rawQ_val]),hs⟩
theorem rawQ_ok{z:QC}(h:ShortZ z):GOk (rawQ z).val:=⟨z,rawQ_val z,h⟩
end Go.Proofs.YthklnbaddobieaaGreat
namespace Go.Proofs.YthklnbaddobieaaGreat
open Go.RowKit Tr
end Go.Proofs.YthklnbaddobieaaGreat
namespace Go.Proofs.YthklnbaddobieaaGreat
open Go.RowKit Tr
theorem tI{p:Prop}(h:p):true=true↔p:=⟨fun _=>h,fun _=>rfl⟩
theorem fI{p:Prop}(h:¬p):false=true↔p:=⟨fun e=>(by cases e),fun e=>absurd e h⟩
def gr(q:Rat):GF where
 R:=RatP q
 int:=false
 keeps:=RatP.keeps q
 cell:=fun v w A h=>by obtain⟨b,rfl,_⟩:=h; rfl
 noint:=fun _ v w A h k x=>by obtain⟨b,rfl,_⟩:=h; simp
 ex:=none
 exact:=fun u e=>by cases e
def gro(q:Rat):GF where
 R:=RatO q
 int:=false
 keeps:=RatO.keeps q
 cell:=fun v w A h=>by rcases h with⟨rfl,_⟩|⟨b,rfl,_⟩<;>rfl
 noint:=fun _ v w A h k x=>by rcases h with⟨rfl,_⟩|⟨b,rfl,_⟩<;>simp
 ex:=none
 exact:=fun u e=>by cases e
def rF(q:Rat):List GF:=[gx (.bool (decide (q.num<0))),gx (.string (strN q.num.natAbs)),gx (.bool false),gx (.string (strN q.den))]
def rG(z:QC):List GF:=rF z.re++rF z.im
def cq(z:QC):List GF:=[gr z.re,gr z.im]
def cn(z:QC):List GF:=[gro z.re,gro z.im]
section
variable{w:World}{A:Nat→Prop}{v:Value}
theorem okg_cons{g:GF}{l:List GF}{vs:List Value}:okg (g :: l) vs w A↔∃ u us,vs=u :: us∧g.R u w A∧okg l us w A:=by
 cases vs with
 | nil=>exact⟨fun h=>h.elim,fun⟨_,_,e,_⟩=>by cases e⟩
 | cons u us=>exact⟨fun h=>⟨u,us,rfl,h.1,h.2⟩,fun⟨_,_,e,h⟩=>by cases e; exact h⟩
theorem okg_nil{vs:List Value}:okg [] vs w A↔vs=[]:=by
 cases vs with
 | nil=>exact⟨fun _=>rfl,fun _=>trivial⟩
 | cons u us=>exact⟨fun h=>h.elim,fun e=>by cases e⟩
theorem cn_iff{z:QC}:(FR.row (cn z)).R v w A↔NumO z.re z.im v w A:=by
 constructor
 ·rintro⟨vs,rfl,h⟩
  obtain⟨u1,_,rfl,h1,h⟩:=okg_cons.1 h
  obtain⟨u2,_,rfl,h2,h⟩:=okg_cons.1 h
  cases okg_nil.1 h
  exact⟨u1,u2,rfl,h1,h2⟩
 ·rintro⟨u1,u2,rfl,h1,h2⟩
  exact⟨[u1,u2],rfl,h1,h2,trivial⟩
end
def RawG.Sz(g:RawG):Prop:=g.s1.size≤1000000000∧g.s2.size≤1000000000∧g.s3.size≤1000000000∧g.s4.size≤1000000000
def RawP.Sz(p:RawP):Prop:=p.g.Sz
def flA(l:List (List AC)):List AC:=l.flatten
def gR(n:Nat):List AC:=[.sym n,.sym (n+1),.lit (.bool false),.sym (n+2),.sym (n+3),.sym (n+4),.lit (.bool false),.sym (n+5)]
def gL:List Nat→List AC
 | []=>[]
 | n :: l=>gR n++gL l
def B1(b:Bool):FV:=.r (.c (gx (.bool b)))
theorem pGMay(g:RawG)(hs:g.Sz)(r:Bool)(hr:r=true↔GOk g.val):SpecC Tryz.prog true 128 [.row g.cells] (B1 r) :=
 spec1 eo128 fun w A u _ _ hu=>by
  obtain⟨l1,l2,l3,l4⟩:=hs
  rw[(FR.val_ok (u:=g.val) (x:=.row g.cells) (by kernel_rfl)).1 hu]
  refine(GMay_any g.n1 g.n2 g.n3 g.n4 g.s1 g.s2 g.s3 g.s4 (by omega) (by omega) (by omega) (by omega) w).mono fun r' w' h=>⟨_,h.1,?_,h.2⟩
  show Value.bool _=Value.bool r
  congr 1
  rw[Bool.eq_iff_iff,hr,gOk_iff,Bool.and_eq_true,okB_iff,okB_iff]
def bI{P:Program}{L:List GF}(op:BinOp)(t:TypeId)(x y:AC)(a b:Int)(c:Bool)(h:cmpB op a b=some c)(hx:x.gv L=some (.int .i64 a):=by kernel_rfl)(hy:y.gv L=some (.int .i64 b):=by kernel_rfl):GB P L:=gbInt op t .i64 x y a b c h hx hy
section
variable{L:List GF}
end
theorem sz_short{z:QC}(h:ShortZ z):(rawQ z).Sz:=by
 obtain⟨⟨h1,h2⟩,h3,h4⟩:=h
 exact⟨Nat.le_trans h1 (by decide),Nat.le_trans h2 (by decide),Nat.le_trans h3 (by decide),Nat.le_trans h4 (by decide)⟩
end Go.Proofs.YthklnbaddobieaaGreat
namespace Go.Proofs.YthklnbaddobieaaGreat
open Go.RowKit Tr
def G1(z:QC):FR:=.row (rG z)
theorem rGMay(g:RawG)(r:Bool)(hr:r=true↔GOk g.val):SpecC Tryz.prog false 130 [.row g.cells] (B1 r):=spec_pure eo130 (gmay g r hr) (by kernel_rfl) (by kernel_rfl)
end Go.Proofs.YthklnbaddobieaaGreat
namespace Go.Proofs.YthklnbaddobieaaGreat
open Go.RowKit Tr
def Sz(s:ByteArray):Int:=(s.size:Nat)
end Go.Proofs.YthklnbaddobieaaGreat
namespace Go.Proofs.YthklnbaddobieaaGreat
open Go.RowKit Tr
theorem RatO.shape{q:Rat}{v:Value}{w:World}{A:Nat→Prop}(h:RatO q v w A):∃ p,v=.pointer p:=by
 rcases h with⟨rfl,_⟩|h
 ·exact⟨none,rfl⟩
 ·obtain⟨m,rfl⟩:=h.shape
  exact⟨_,rfl⟩
theorem put_numO{a b:Rat}{v1 v2:Value}{w w1:World}{A:Nat→Prop}{n:Nat}(hb:Below w.heap.size w w1)(h1:RatO a v1 w1 (Mo A n))(h2:RatO b v2 w1 (Mo A n))(hn:w.heap.size≤n) :
  ∃ u,Ending.returned (.agg #[v1,v2])=.returned u∧Below w.heap.size w ((w1.setCell ⟨n,0,none⟩ v1).setCell ⟨n,1,none⟩ v2)∧NumO a b u ((w1.setCell ⟨n,0,none⟩ v1).setCell ⟨n,1,none⟩ v2) A:=by
 refine⟨_,rfl,(hb.setCell (p:=⟨n,0,none⟩) hn _).setCell (p:=⟨n,1,none⟩) hn _,v1,v2,rfl,?_,?_⟩
 ·exact more_less _ (RatO.keeps a) (keep_set _ (RatO.keeps a) (keep_set _ (RatO.keeps a) h1))
 ·exact more_less _ (RatO.keeps b) (keep_set _ (RatO.keeps b) (keep_set _ (RatO.keeps b) h2))
def MayF(v:Value):Fact:=fun u w A=>(¬FracOk v∧u=.pointer none)∨∃ q,v=encF q∧FracOk v∧RatP q u w A
theorem MayF.keeps(v:Value):(MayF v).Keeps:=fun u w w' A A' hs hk h=>h.imp id (fun⟨q,e,f,h⟩=>⟨q,e,f,RatP.keeps q u w w' A A' hs hk h⟩)
theorem MayR.mayF{v u:Value}{w w':World}{A:Nat→Prop}(h:MayR v w.heap.size u w' NoA)(hb:Below w.heap.size w w')(hA:Rcv A w):MayF v u w' A:=by
 rcases h with h|⟨q,e,f,h⟩
 ·exact .inl h
 ·exact .inr ⟨q,e,f,(h.new hb (Nat.le_refl _)).2 A hA⟩
def NQ(z:QC):Fact:=NumO z.re z.im
theorem NQ.keeps(z:QC):(NQ z).Keeps:=NumO.keeps _ _
def GaussOk(v:Value):Prop:=∃ z:QC,v=encG z.re z.im∧ShortF z.re∧ShortF z.im
theorem gaussOk_iff{n1 n2 n3 n4:Bool}{s1 s2 s3 s4:ByteArray}:GaussOk (.agg #[.bool n1,.string s1,.bool n2,.string s2,.bool n3,.string s3,.bool n4,.string s4])↔FracOk (.agg #[.bool n1,.string s1,.bool n2,.string s2])∧FracOk (.agg #[.bool n3,.string s3,.bool n4,.string s4]):=by
 constructor
 ·rintro⟨z,e,h1,h2⟩
  unfold encG at e
  simp only[Value.agg.injEq,Array.mk.injEq,List.cons.injEq,Value.bool.injEq,Value.string.injEq,and_true] at e
  obtain⟨e1,e2,e3,e4,e5,e6,e7,e8⟩:=e
  subst e1 e2 e3 e4 e5 e6 e7 e8
  exact⟨⟨z.re,rfl,h1⟩,⟨z.im,rfl,h2⟩⟩
 ·rintro⟨⟨a,e1,h1⟩,⟨b,e2,h2⟩⟩
  obtain⟨rfl,rfl,rfl,rfl⟩:=encF_parts e1
  obtain⟨rfl,rfl,rfl,rfl⟩:=encF_parts e2
  exact⟨⟨a,b⟩,rfl,h1,h2⟩
end Go.Proofs.YthklnbaddobieaaGreat
