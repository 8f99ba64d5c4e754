/- Laws for the walk. -/
import Derived.Test.YthklnbaddobieaaGreatZbb
import Derived.ChangeKeysEq
set_option linter.unusedVariables false
set_option maxHeartbeats 4000000
namespace Tr
open Go Go.RowKit
section
variable{P:Program}{L:List GF}
def goLenS(t:TypeId)(ht:P.underlying t=some .string)(x:AC)(s:ByteArray)(res:AC)(hn:x.noown=true:=by rfl)(hx:x.gv L=some (.string s):=by rfl)(hr:res.gv L=some (.int .i64 (s.size:Nat)):=by rfl):GO P L :=
 goLenG t (.c x) res (fun w A u ty hu=>by
  have e:u=.string s:=(AC.gv_ok (x:=x) hx).1 hu
  subst e
  simp[Builtin.len_,run_underlying ht,goInt]) (by simpa[AR.noown,AR.cells] using hn) hr
theorem eqGuard_plain{t:TypeId}(h:P.eqGuardType P.depth t=false)(op:BinOp)(xo yo:Operand)(a b:Array Value)(w:World):(eqGuard op t xo yo (.agg a) (.agg b)).run P w=.ok () w:=by
 cases op<;>simp[eqGuard,h]
theorem agg_eql{t:TypeId}(h:P.eqGuardType P.depth t=false){a b:Array Value}{r:Bool}(he:∀ w,(binOp .eql t (.agg a) (.agg b)).run P w=.ok (.bool r) w):∀(xo yo:Operand) (w:World),(do eqGuard .eql t xo yo (.agg a) (.agg b); binOp .eql t (.agg a) (.agg b):Sem Value).run P w=.ok (.bool r) w:=by
 intro xo yo w
 rw[Sem.run_bind,eqGuard_plain h,Result.andThen_ok,he]
end
end Tr
namespace Go.Proofs.YthklnbaddobieaaGreat
open Go.RowKit Tr
set_option maxRecDepth 100000 in
theorem run_eql_w(w:World)(n1 m1:Bool)(s1 t1:ByteArray)(r:Bool)(hr:r=true↔Value.agg #[.bool n1,.string s1]=.agg #[.bool m1,.string t1]) :
  (binOp .eql 23 (.agg #[.bool n1,.string s1]) (.agg #[.bool m1,.string t1])).run Tryz.prog w=.ok (.bool r) w:=by
 simp only[Value.agg.injEq,Array.mk.injEq,List.cons.injEq,Value.bool.injEq,Value.string.injEq,and_true] at hr
 go_simp
 simp only[toL_iff]
 cases r
 ·have hn:¬(n1=m1∧s1=t1):=fun h=>by cases hr.2 h
  repeat' split
  all_goals first
   | rfl
   | (exfalso; apply hn; refine⟨?_,?_⟩<;>assumption)
 ·obtain⟨rfl,rfl⟩:=hr.1 rfl
  simp
theorem encZ_inj{x y:Int}(h:encZ x=encZ y):x=y:=by
 unfold encZ at h
 simp only[Value.agg.injEq,Array.mk.injEq,List.cons.injEq,Value.bool.injEq,Value.string.injEq,and_true] at h
 have h2:=strN_inj h.2
 by_cases hx:x<0<;>by_cases hy:y<0<;>simp[hx,hy] at h<;>omega
theorem ffits(n1 n2:Bool)(s1 s2:ByteArray)(r:Bool)(hr:r=decide (s1.size≤1024∧s2.size≤1024)):PureC Tryz.prog 43 [.agg #[.bool n1,.string s1,.bool n2,.string s2]] (.bool r):=by
 by_cases h1:s1.size≤1024
 ·exact ev_pure (hp:=false) (L:=[gx (.bool n1),gx (.string s1),gx (.bool n2),gx (.string s2),gx (.int .i64 (s1.size:Nat)),gx (.int .i64 (s2.size:Nat)),gx (.bool r)]) tys_ok mixed []
   [gbInt .leq 3 .i64 (.sym 4) (.lit (.int .i64 1024)) _ _ true (by simp[cmpB]; omega) rfl rfl,gb .leq 3 (.c (.sym 5)) (.c (.lit (.int .i64 1024))) (.sym 6) (int_cmp .leq _ .i64 _ _ r (by simp[cmpB,hr,h1]; omega)) rfl rfl rfl]
   [goLenS 9 Tryz.underlying9 (.sym 1) s1 (.sym 4) rfl rfl rfl,goLenS 9 Tryz.underlying9 (.sym 3) s2 (.sym 5) rfl rfl rfl]
   Tryz.func43 100 [.row [.sym 0,.sym 1,.sym 2,.sym 3]] (.r (.c (.sym 6))) (by kernel_rfl) rfl rfl
 ·have hr':r=false:=by rw[hr]; simp[h1]
  subst hr'
  exact ev_pure (hp:=false) (L:=[gx (.bool n1),gx (.string s1),gx (.bool n2),gx (.string s2),gx (.int .i64 (s1.size:Nat))]) tys_ok mixed []
   [gbInt .leq 3 .i64 (.sym 4) (.lit (.int .i64 1024)) _ _ false (by simp[cmpB]; omega) rfl rfl]
   [goLenS 9 Tryz.underlying9 (.sym 1) s1 (.sym 4) rfl rfl rfl]
   Tryz.func43 100 [.row [.sym 0,.sym 1,.sym 2,.sym 3]] (.r (.c (.lit (.bool false)))) (by kernel_rfl) rfl rfl
theorem wform_cells{neg:Bool}{s:ByteArray}(h:WForm neg s):neg=decide (sgn neg (numS s)<0)∧s=strN (sgn neg (numS s)).natAbs:=by
 have:=h.enc
 unfold encZ at this
 simpa using this
theorem wform_z(z:Int):WForm (decide (z<0)) (strN z.natAbs):=by
 refine⟨fun h0=>?_,noLead_strN _⟩
 have h1:=(numS_zero (noLead_strN z.natAbs)).2 h0
 rw[numS_strN] at h1
 simp; omega
theorem WL.str{n:Nat}{s:ByteArray}{k:Nat}(h:numS s=n)(hs:s.size≤k):WL n k:=Nat.le_trans (wl_size h) hs
theorem fformed (n1 n2 : Bool) (s1 s2 : ByteArray) (h1 : s1.size ≤ 536870912) (h2 : s2.size ≤ 536870912) (r : Bool) (hr : r = true ↔ ∃ q : Rat,Value.agg #[.bool n1,.string s1,.bool n2,.string s2] = encF q) :
    PureC Tryz.prog 44 [.agg #[.bool n1,.string s1,.bool n2,.string s2]] (.bool r):=by
  by_cases w1:WForm n1 s1
  · by_cases w2:WForm n2 s2
    · obtain⟨e1,e2⟩:=wform_cells w1
      obtain⟨e3,e4⟩:=wform_cells w2
      have la:WL (sgn n1 (numS s1)).natAbs 536870912:=by rw[natAbs_sgn]; exact WL.str rfl h1
      have lb:WL (sgn n2 (numS s2)).natAbs 536870912:=by rw[natAbs_sgn]; exact WL.str rfl h2
      obtain⟨a,ha⟩:∃ a,a=sgn n1 (numS s1):=⟨_,rfl⟩
      obtain⟨b,hb⟩:∃ b,b=sgn n2 (numS s2):=⟨_,rfl⟩
      rw[←ha] at e1 e2 la
      rw[←hb] at e3 e4 lb
      clear ha hb
      subst e1; subst e2; subst e3; subst e4
      have hq:(∃ q:Rat,Value.agg #[.bool (decide (a<0)),.string (strN a.natAbs),.bool (decide (b<0)),.string (strN b.natAbs)]=encF q)↔0<b∧Nat.gcd a.natAbs b.natAbs=1:=by
        constructor
        · rintro⟨q,hq⟩
          obtain⟨k1,k2,k3,k4⟩:=encF_parts hq
          have k5:=strN_inj k4
          have k6:=strN_inj k2
          have k7:=q.den_nz
          have k8:=q.reduced
          have k9:¬b<0:=by simpa using k3
          refine⟨by omega,?_⟩
          rw[k5,k6]; exact k8
        · rintro⟨k1,k2⟩
          refine⟨⟨a,b.natAbs,by omega,k2⟩,?_⟩
          unfold encF
          have:¬b<0:=by omega
          simp[this]
      rw[hq] at hr
      have f1:=sformed (decide (a<0)) (strN a.natAbs) true (by simp[w1])
      have f2:=sformed (decide (b<0)) (strN b.natAbs) true (by simp[w2])
      by_cases hb:0<b
      · have ho:=sof 1 (by decide) (by decide)
        have hg:=sgcd a b la lb
        obtain⟨g,hgd⟩:∃ g,g=Nat.gcd a.natAbs b.natAbs:=⟨_,rfl⟩
        rw[←hgd] at hg hr
        exact ev_pure (hp:=false) (L:=cz a++cz b++cz (g:Int)++cz 1++[gx (.bool r),gx (.int .i64 b.sign)]) tys_ok mixed
          [gp 105 [.row (zA 0)] (.r (.c (.lit (.bool true)))) eo105 f1 rfl rfl,gp 105 [.row (zA 2)] (.r (.c (.lit (.bool true)))) eo105 f2 rfl rfl,gp 106 [.row (zA 2)] (.r (.c (.sym 9))) eo106 (ssign b) rfl rfl,gp 107 [.row (zA 0),.row (zA 2)] (.r (.row (zA 4))) eo107 hg rfl rfl,gp 79 [.c (.lit (.int .i64 1))] (.r (.row (zA 6))) eo79 ho rfl rfl]
          [gbInt .leq 3 .i64 (.sym 9) (.lit (.int .i64 0)) _ _ false (by rw[Int.sign_eq_one_of_pos hb]; rfl) rfl rfl,gb .eql 23 (.row (zA 4)) (.row (zA 6)) (.sym 8) (agg_eql (by kernel_rfl) (fun w=>run_eql_w w _ _ _ _ r (by
             rw[hr]; constructor
             · rintro⟨_,h⟩; rw[h]; rfl
             · intro h; have:=encZ_inj (x:=(g:Int)) (y:=1) h; exact⟨hb,by omega⟩))) rfl rfl rfl] []
          Tryz.func44 100 [.row (zA 0++zA 2)] (.r (.c (.sym 8))) (by kernel_rfl) rfl rfl
      · have hr':r=false:=by cases r; rfl; exact absurd (hr.1 rfl).1 hb
        subst hr'
        exact ev_pure (hp:=false) (L:=cz a++cz b++[gx (.int .i64 b.sign)]) tys_ok mixed
          [gp 105 [.row (zA 0)] (.r (.c (.lit (.bool true)))) eo105 f1 rfl rfl,gp 105 [.row (zA 2)] (.r (.c (.lit (.bool true)))) eo105 f2 rfl rfl,gp 106 [.row (zA 2)] (.r (.c (.sym 4))) eo106 (ssign b) rfl rfl]
          [gbInt .leq 3 .i64 (.sym 4) (.lit (.int .i64 0)) _ _ true (by
            have:b.sign≤0:=by rcases Int.lt_trichotomy b 0 with h|h|h<;>first|(rw[Int.sign_eq_neg_one_of_neg h]; decide)|(subst h; decide)|omega
            simp[cmpB,this]) rfl rfl] []
          Tryz.func44 100 [.row (zA 0++zA 2)] (.r (.c (.lit (.bool false)))) (by kernel_rfl) rfl rfl
    · have hr' : r = false := by
        cases r; rfl
        obtain⟨q,e⟩:=hr.1 rfl
        obtain⟨k1,k2,k3,k4⟩:=encF_parts e
        exfalso; apply w2
        have:=wform_z (q.den:Int)
        rw[show decide ((q.den:Int)<0)=false by simp] at this
        rw[k3,k4]; simpa using this
      subst hr'
      exact ev_pure (hp:=false) (L:=[gx (.bool n1),gx (.string s1),gx (.bool n2),gx (.string s2)]) tys_ok mixed
        [gp 105 [.row (zA 0)] (.r (.c (.lit (.bool true)))) eo105 (sformed n1 s1 true (by simp[w1])) rfl rfl,gp 105 [.row (zA 2)] (.r (.c (.lit (.bool false)))) eo105 (sformed n2 s2 false (by simp[w2])) rfl rfl] [] []
        Tryz.func44 100 [.row (zA 0++zA 2)] (.r (.c (.lit (.bool false)))) (by kernel_rfl) rfl rfl
  · have hr' : r = false := by
      cases r; rfl
      obtain⟨q,e⟩:=hr.1 rfl
      obtain⟨k1,k2,k3,k4⟩:=encF_parts e
      exfalso; apply w1
      rw[k1,k2]; exact wform_z _
    subst hr'
    exact ev_pure (hp:=false) (L:=[gx (.bool n1),gx (.string s1),gx (.bool n2),gx (.string s2)]) tys_ok mixed
      [gp 105 [.row (zA 0)] (.r (.c (.lit (.bool false)))) eo105 (sformed n1 s1 false (by simp[w1])) rfl rfl] [] []
      Tryz.func44 100 [.row (zA 0++zA 2)] (.r (.c (.lit (.bool false)))) (by kernel_rfl) rfl rfl
theorem fmay (n1 n2 : Bool) (s1 s2 : ByteArray) (r : Bool) (hr : r = true ↔ FracOk (.agg #[.bool n1,.string s1,.bool n2,.string s2])) :
    PureC Tryz.prog 13 [.agg #[.bool n1,.string s1,.bool n2,.string s2]] (.bool r):=by
  by_cases h:s1.size≤1024∧s2.size≤1024
  · have hf := fformed n1 n2 s1 s2 (by omega) (by omega) r (by
      rw[hr]
      constructor
      · rintro⟨q,e,_⟩; exact⟨q,e⟩
      · rintro⟨q,e⟩
        obtain⟨k1,k2,k3,k4⟩:=encF_parts e
        exact⟨q,e,by rw[←k2]; exact h.1,by rw[←k4]; exact h.2⟩)
    exact ev_pure (hp:=false) (L:=[gx (.bool n1),gx (.string s1),gx (.bool n2),gx (.string s2),gx (.bool r)]) tys_ok mixed
      [gp 43 [.row (zA 0++zA 2)] (.r (.c (.lit (.bool true)))) eo43 (ffits n1 n2 s1 s2 true (by simp[h])) rfl rfl,gp 44 [.row (zA 0++zA 2)] (.r (.c (.sym 4))) eo44 hf rfl rfl] [] []
      Tryz.func13 100 [.row (zA 0++zA 2)] (.r (.c (.sym 4))) (by kernel_rfl) rfl rfl
  · have hr' : r = false := by
      cases r; rfl
      obtain⟨q,e,k⟩:=hr.1 rfl
      obtain⟨k1,k2,k3,k4⟩:=encF_parts e
      exfalso; apply h
      rw[k2,k4]; exact k
    subst hr'
    exact ev_pure (hp:=false) (L:=[gx (.bool n1),gx (.string s1),gx (.bool n2),gx (.string s2)]) tys_ok mixed
      [gp 43 [.row (zA 0++zA 2)] (.r (.c (.lit (.bool false)))) eo43 (ffits n1 n2 s1 s2 false (by simp[h])) rfl rfl] [] []
      Tryz.func13 100 [.row (zA 0++zA 2)] (.r (.c (.lit (.bool false)))) (by kernel_rfl) rfl rfl
end Go.Proofs.YthklnbaddobieaaGreat
namespace Go.Proofs.YthklnbaddobieaaGreat
open Go.RowKit Tr
def RatB(base:Nat)(q:Rat):Fact:=fun v w A=>∃ m C,v=.pointer (some ⟨m,0,none⟩)∧base≤m∧¬A m∧w.heap[m]?=some (.cells C 133 (0,0))∧C.size=4∧NoW (.cells C 133 (0,0))∧RatP q v w A
theorem RatB.keeps(base:Nat)(q:Rat):(RatB base q).Keeps:=by
 intro v w w' A A' hs hk ⟨m,C,h1,h2,h3,h4,h5,h6,h7⟩
 obtain⟨k1,k2⟩:=hk m (Array.getElem?_eq_some_iff.1 h4).1 h3
 exact⟨m,C,h1,h2,k2,k1.trans h4,h5,h6,RatP.keeps q _ _ _ _ _ hs hk h7⟩
def CP(a b:Rat):Fact:=fun v w A=>∃ u1 u2,v=.agg #[u1,u2]∧RatP a u1 w A∧RatP b u2 w A
theorem CP.keeps(a b:Rat):(CP a b).Keeps:=fun v w w' A A' hs hk ⟨u1,u2,h1,h2,h3⟩=>⟨u1,u2,h1,RatP.keeps a _ _ _ _ _ hs hk h2,RatP.keeps b _ _ _ _ _ hs hk h3⟩
theorem CP.below{a b:Rat}{v:Value}{w w':World}{A:Nat→Prop}(h:CP a b v w A)(hb:Below w.heap.size w w'):CP a b v w' A:=Fact.Keeps.below (CP.keeps a b) hb h
end Go.Proofs.YthklnbaddobieaaGreat
namespace Go.Proofs.YthklnbaddobieaaGreat
open Go.RowKit Tr
end Go.Proofs.YthklnbaddobieaaGreat
namespace Go.Proofs.YthklnbaddobieaaGreat
open Go.RowKit Tr
set_option maxRecDepth 100000 in
theorem XRat_any(n1 n2:Bool)(s1 s2:ByteArray)(hd0:numS s2≠0)(h1:s1.size<274877906944)(h2:s2.size<274877906944)(w:World) :
  Calls Tryz.prog 35 #[.agg #[.bool n1,.string s1,.bool n2,.string s2]] w fun e w'=>∃ v,e=.returned v∧NewR (Rat.divInt (sgn n1 (numS s1)) (sgn n2 (numS s2))) v w w':=by
 have hdz:sgn n2 (numS s2)≠0:=by unfold sgn; cases n2<;>simp<;>omega
 have HZ:=Lib.hid hdz
 have l1:(words (sgn n1 (numS s1)).natAbs).length<274877906944:=by rw[natAbs_sgn]; exact Nat.lt_of_le_of_lt (words_length_le (k:=s1.size) (Nat.lt_of_lt_of_le (numS_lt s1) (Nat.pow_le_pow_left (by decide) _))) h1
 have l2:(words (sgn n2 (numS s2)).natAbs).length<274877906944:=by rw[natAbs_sgn]; exact Nat.lt_of_le_of_lt (words_length_le (k:=s2.size) (Nat.lt_of_lt_of_le (numS_lt s2) (Nat.pow_le_pow_left (by decide) _))) h2
 have HL:=Lib.hid (And.intro l1 l2)
 clear hdz hd0 l1 l2
 go_enter Tryz.func35,Tryz.ntmps35
 go_wp2_with fail
 obtain⟨W,hW⟩:∃ W,W=w.alloc (.cells #[.bool n1,.string s1,.bool n2,.string s2] 25):=⟨_,rfl⟩
 have hB:Below w.heap.size w W:=by rw[hW]; exact br.alloc (Nat.le_refl _) _
 have hWs:w.heap.size<W.heap.size:=by rw[hW]; simp
 obtain⟨e0,e1,e2,e3,_⟩:=new_four w (.bool n1) (.string s1) (.bool n2) (.string s2) 25 br
 rw[←hW] at e0 e1 e2 e3 ⊢
 clear hW
 refine wp_region_inv [(.new zR,[]),(.lit,[]),(.lit,[]),(.val,[]),(.lit,[]),(.lit,[]),(.val,[]),(.on 0 zR,[3,6])]
  (pickF [(3,IntP (sgn n1 (numS s1))),(6,IntP (sgn n2 (numS s2))),(7,RatM W.heap.size (Rat.divInt (sgn n1 (numS s1)) (sgn n2 (numS s2))))]) (by kernel_rfl) ?_ ?_ (by simp[noW_zRat]) (by simp) (by kernel_rfl)
 ·exact keeps_pick (by simp[IntP.keeps,RatM.keeps])
 ·refine⟨fun f w1=>by go_simp,?_⟩
  repeat (refine⟨_,fun f w1 h1=>by(have d0:=ct h1 hWs e0; have d1:=ct h1 hWs e1; have d2:=ct h1 hWs e2; have d3:=ct h1 hWs e3; go_simp; rfl),?_⟩)
  simp only[Act.put,nrA,nrB,nrC,Nat.reduceAdd]
  refine⟨fun f w1 A1 k1 hA hN hd K hK=>by
   go_simp
   refine(xnumber_any n1 s1 h1 w1).mono ?_
   rintro e w' ⟨v,rfl,hn⟩
   exact hK _ _ hn.1 (hn.2 A1 hA),?_⟩
  repeat (refine⟨_,fun f w1 h1=>by(have d0:=ct h1 hWs e0; have d1:=ct h1 hWs e1; have d2:=ct h1 hWs e2; have d3:=ct h1 hWs e3; go_simp; rfl),?_⟩)
  simp only[Act.put,nrA,nrB,nrC,Nat.reduceAdd]
  refine⟨fun f w1 A1 k1 hA hN hd K hK=>by
   go_simp
   refine(xnumber_any n2 s2 h2 w1).mono ?_
   rintro e w' ⟨v,rfl,hn⟩
   exact hK _ _ hn.1 (hn.2 A1 hA),?_⟩
  simp only[Act.put,nrA,nrB,nrC,Nat.reduceAdd]
  refine⟨fun f w1 A1 m1 k1 hA hN hAm hm0 e hz hd K hK=>by
   simp only[e] at hK ⊢
   have i1:IntP (sgn n1 (numS s1)) (f 3) w1 A1:=hd 3 (by simp)
   have i2:IntP (sgn n2 (numS s2)) (f 6) w1 A1:=hd 6 (by simp)
   go_simp
   refine(SetFrac_any m1 _ _ _ HZ.out _ _ A1 w1 hz (by decide) noW_zRat i1 i2 HL.out.1 HL.out.2).mono ?_
   rintro e w' ⟨rfl,hp⟩
   exact hK _ w' hp.1 (hp.ratM hm0 hA),?_⟩
  intro f w1 k1 hF
  have i1:RatM W.heap.size (Rat.divInt (sgn n1 (numS s1)) (sgn n2 (numS s2))) (f 7) w1 NoA:=hF.2
  clear hF
  simp only[Act.put,nrA,nrB,nrC]
  generalize f 3=v3
  generalize f 6=v6
  generalize f 7=v7 at *
  have hbw:Below W.heap.size W w1:=br.drew.trans k1
  have hn:=i1.new (hB.trans (hbw.mono hB.size)) hB.size
  have HN:=Lib.hid hn
  clear hn i1
  go_wp2
  go_ret
  exact⟨v7,rfl,HN.out⟩
end Go.Proofs.YthklnbaddobieaaGreat
namespace Go.Proofs.YthklnbaddobieaaGreat
open Go.RowKit Tr
end Go.Proofs.YthklnbaddobieaaGreat
namespace Go.Proofs.YthklnbaddobieaaGreat
open Go.RowKit Tr
end Go.Proofs.YthklnbaddobieaaGreat
namespace Go.Proofs.YthklnbaddobieaaGreat
open Go.RowKit Tr
def encG(a b:Rat):Value:=.agg #[.bool (decide (a.num<0)),.string (strN a.num.natAbs),.bool false,.string (strN a.den),.bool (decide (b.num<0)),.string (strN b.num.natAbs),.bool false,.string (strN b.den)]
end Go.Proofs.YthklnbaddobieaaGreat
namespace Go.Proofs.YthklnbaddobieaaGreat
open Go.RowKit Tr
end Go.Proofs.YthklnbaddobieaaGreat
namespace Go.Proofs.YthklnbaddobieaaGreat
open Go.RowKit Tr
def PP(a b c d:Rat):Fact:=fun v w A=>∃ u1 u2 u3 u4,v=.agg #[u1,u2,u3,u4]∧RatP a u1 w A∧RatP b u2 w A∧RatP c u3 w A∧RatP d u4 w A
theorem PP.keeps(a b c d:Rat):(PP a b c d).Keeps:=fun v w w' A A' hs hk ⟨u1,u2,u3,u4,h0,h1,h2,h3,h4⟩=>⟨u1,u2,u3,u4,h0,RatP.keeps a _ _ _ _ _ hs hk h1,RatP.keeps b _ _ _ _ _ hs hk h2,RatP.keeps c _ _ _ _ _ hs hk h3,RatP.keeps d _ _ _ _ _ hs hk h4⟩
end Go.Proofs.YthklnbaddobieaaGreat
namespace Go.Proofs.YthklnbaddobieaaGreat
open Go.RowKit Tr
structure QC where
 re:Rat
 im:Rat
 deriving DecidableEq
namespace QC
instance:Mul QC:=⟨fun x y=>⟨x.re*y.re - x.im*y.im,x.re*y.im+x.im*y.re⟩⟩
instance:Add QC:=⟨fun x y=>⟨x.re+y.re,x.im+y.im⟩⟩
instance:Sub QC:=⟨fun x y=>⟨x.re - y.re,x.im - y.im⟩⟩
end QC
def ZL(z:QC)(k:Nat):Prop:=RL z.re k∧RL z.im k
theorem ZL.mono{z:QC}{k l:Nat}(h:ZL z k)(hl:k≤l):ZL z l:=⟨h.1.mono hl,h.2.mono hl⟩
def CQ(z:QC):Fact:=CP z.re z.im
theorem CQ.keeps(z:QC):(CQ z).Keeps:=CP.keeps _ _
def PQ(x y:QC):Fact:=PP x.re x.im y.re y.im
theorem PQ.keeps(x y:QC):(PQ x y).Keeps:=PP.keeps _ _ _ _
end Go.Proofs.YthklnbaddobieaaGreat
namespace Go.Proofs.YthklnbaddobieaaGreat
open Go.RowKit Tr
end Go.Proofs.YthklnbaddobieaaGreat
namespace Go.Proofs.YthklnbaddobieaaGreat
open Go.RowKit Tr
instance:Div QC:=⟨fun x y=>⟨(x.re*y.re - x.im*(-y.im))*(y.re*y.re+y.im*y.im)⁻¹,(x.re*(-y.im)+x.im*y.re)*(y.re*y.re+y.im*y.im)⁻¹⟩⟩
end Go.Proofs.YthklnbaddobieaaGreat
namespace Go.Proofs.YthklnbaddobieaaGreat
open Go.RowKit Tr
end Go.Proofs.YthklnbaddobieaaGreat
namespace Tr
open Go Go.RowKit Go.Proofs.YthklnbaddobieaaGreat
theorem ZL.r{z:QC}{k:Nat}(h:ZL z k):RL z.re k:=h.1
theorem ZL.i{z:QC}{k:Nat}(h:ZL z k):RL z.im k:=h.2
end Tr
namespace Go.Proofs.YthklnbaddobieaaGreat
open Go.RowKit Tr
structure RawG where
 (n1 n2 n3 n4:Bool)
 (s1 s2 s3 s4:ByteArray)
def RawG.val(g:RawG):Value:=.agg #[.bool g.n1,.string g.s1,.bool g.n2,.string g.s2,.bool g.n3,.string g.s3,.bool g.n4,.string g.s4]
def RawG.cells(g:RawG):List GF:=[gx (.bool g.n1),gx (.string g.s1),gx (.bool g.n2),gx (.string g.s2),gx (.bool g.n3),gx (.string g.s3),gx (.bool g.n4),gx (.string g.s4)]
structure RawP where
 i:Bool
 g:RawG
def RawP.val(p:RawP):Value:=.agg #[.bool p.i,.bool p.g.n1,.string p.g.s1,.bool p.g.n2,.string p.g.s2,.bool p.g.n3,.string p.g.s3,.bool p.g.n4,.string p.g.s4]
def RawP.cells(p:RawP):List GF:=gx (.bool p.i) :: p.g.cells
def pA(i:Nat):List AC:=[.sym i,.sym (i+1),.sym (i+2),.sym (i+3),.sym (i+4),.sym (i+5),.sym (i+6),.sym (i+7),.sym (i+8)]
theorem encF_inj'{x y:Rat}(h:encF x=encF y):x=y:=by
 have:=h
 unfold encF at h
 simp only[Value.agg.injEq,Array.mk.injEq,List.cons.injEq,Value.bool.injEq,Value.string.injEq,and_true,true_and] at h
 obtain⟨h1,h2,h3⟩:=h
 have e2:=strN_inj h2
 have e3:=strN_inj h3
 refine Rat.ext ?_ e3
 by_cases hx:x.num<0<;>by_cases hy:y.num<0<;>simp[hx,hy] at h1<;>omega
end Go.Proofs.YthklnbaddobieaaGreat
namespace Go.Proofs.YthklnbaddobieaaGreat
open Go.RowKit Tr
structure RawS where
 x:RawG
 y:RawG
def RawS.val(s:RawS):Value:=.agg #[.bool s.x.n1,.string s.x.s1,.bool s.x.n2,.string s.x.s2,.bool s.x.n3,.string s.x.s3,.bool s.x.n4,.string s.x.s4,.bool s.y.n1,.string s.y.s1,.bool s.y.n2,.string s.y.s2,.bool s.y.n3,.string s.y.s3,.bool s.y.n4,.string s.y.s4]
def RawS.cells(s:RawS):List GF:=s.x.cells++s.y.cells
end Go.Proofs.YthklnbaddobieaaGreat
namespace Go.Proofs.YthklnbaddobieaaGreat
open Go.RowKit Tr
end Go.Proofs.YthklnbaddobieaaGreat
namespace Go.Proofs.YthklnbaddobieaaGreat
open Go.RowKit Tr
end Go.Proofs.YthklnbaddobieaaGreat
namespace Tr
open Go Go.RowKit
inductive FR where
 | c (g:GF)|row (l:List GF)
inductive FV where
 | r (x:FR)|tup (l:List FR)
def gl(l:LV):GF:=gx l.val (by cases l<;>rfl)
def okg:List GF→List Value→World→(Nat→Prop)→Prop
 | [],[],_,_=>True
 | g :: l,v :: vs,w,A=>g.R v w A∧okg l vs w A
 | _,_,_,_=>False
def FR.R:FR→Fact
 | .c g=>g.R
 | .row l=>fun v w A=>∃ vs,v=.agg vs.toArray∧okg l vs w A
def okf:List FR→List Value→World→(Nat→Prop)→Prop
 | [],[],_,_=>True
 | x :: l,v :: vs,w,A=>x.R v w A∧okf l vs w A
 | _,_,_,_=>False
def FV.R:FV→Fact
 | .r x=>x.R
 | .tup l=>fun v w A=>∃ vs,v=.tuple vs.toArray∧okf l vs w A
structure SpecC(P:Program)(hp:Bool)(f:FuncId)(args:List FR)(res:FV):Prop where
 ent:Enters P f
 ok:∀(w:World) (A:Nat→Prop) (vs:List Value),(hp=true→Rcv A w)→(∀ n,A n→n<w.heap.size)→okf args vs w A →
  Calls P f vs.toArray w fun r w'=>∃ v,r=.returned v∧res.R v w' A∧Below w.heap.size w w'
section
variable{P:Program}{hp:Bool}{fi:FuncId}{a:List FR}{r s:FV}{c:Prop}[Decidable c]
theorem SpecC.it(h:c)(k:SpecC P hp fi a r):SpecC P hp fi a (if c then r else s):=by rw[if_pos h]; exact k
theorem SpecC.ie(h:¬c)(k:SpecC P hp fi a s):SpecC P hp fi a (if c then r else s):=by rw[if_neg h]; exact k
theorem SpecC.t(k:SpecC P hp fi a (if c then r else s))(h:c):SpecC P hp fi a r:=by rw[if_pos h] at k; exact k
theorem SpecC.f(k:SpecC P hp fi a (if c then r else s))(h:¬c):SpecC P hp fi a s:=by rw[if_neg h] at k; exact k
end
def gfn(f:FuncId):GF:=gx (.func (.func f) #[] #[])
def AC.lk(L:List GF):AC→Option GF
 | .sym i=>some (L.getD i g0)
 | .lit l=>some (gl l)
 | .fn f [] []=>some (gfn f)
 | _=>none
def acsK(L:List GF):List AC→Option (List GF)
 | []=>some []
 | x :: l=>match x.lk L,acsK L l with|some v,some vs=>some (v :: vs)|_,_=>none
def AR.lk(L:List GF):AR→Option FR
 | .c x=>match x.lk L with|some g=>some (.c g)|none=>none
 | .row l=>match acsK L l with|some vs=>some (.row vs)|none=>none
def arsK(L:List GF):List AR→Option (List FR)
 | []=>some []
 | x :: l=>match x.lk L,arsK L l with|some v,some vs=>some (v :: vs)|_,_=>none
def AV.lk(L:List GF):AV→Option FV
 | .r x=>match x.lk L with|some g=>some (.r g)|none=>none
 | .tup l=>match arsK L l with|some vs=>some (.tup vs)|none=>none
 | _=>none
section
variable{P:Program}{L:List GF}{hp:Bool}{σ:Sg}{w:World}{A:Nat→Prop}
theorem AC.lk_ok{x:AC}{g:GF}{v:Value}(h:x.lk L=some g):x.ok (gT L) σ v w A↔g.R v w A:=by
 cases x with
 | sym i=>cases h; exact Iff.rfl
 | lit l=>cases h; exact Iff.rfl
 | fn f a b =>
  cases a with
  | cons _ _=>cases h
  | nil =>
   cases b with
   | cons _ _=>cases h
   | nil =>
    cases h
    constructor
    ·rintro⟨us,vs,e,h1,h2⟩
     cases us with
     | cons _ _=>exact h1.elim
     | nil =>
      cases vs with
      | cons _ _=>exact h2.elim
      | nil=>exact e
    ·intro e; exact⟨[],[],e,trivial,trivial⟩
 | _=>cases h
theorem acsK_ok:∀{l:List AC} {gs:List GF} {vs:List Value},acsK L l=some gs→(oks (gT L) σ l vs w A↔okg gs vs w A)
 | [],gs,vs,h=>by cases h; cases vs<;>exact Iff.rfl
 | x :: l,gs,vs,h=>by
  unfold acsK at h
  split at h
  ·rename_i u r h1 h2
   cases h
   cases vs with
   | nil=>exact Iff.rfl
   | cons v vs=>exact and_congr (AC.lk_ok h1) (acsK_ok h2)
  ·cases h
theorem AR.lk_ok{x:AR}{g:FR}{v:Value}(h:x.lk L=some g):x.ok (gT L) σ v w A↔g.R v w A:=by
 cases x with
 | c x =>
  unfold AR.lk at h
  simp only at h
  split at h
  ·rename_i g' h1; cases h; exact AC.lk_ok (x:=x) h1
  ·cases h
 | row l =>
  unfold AR.lk at h
  simp only at h
  split at h
  ·rename_i gs h1; cases h
   exact exists_congr fun vs=>and_congr Iff.rfl (acsK_ok h1)
  ·cases h
theorem arsK_ok:∀{l:List AR} {gs:List FR} {vs:List Value},arsK L l=some gs→(okr (gT L) σ l vs w A↔okf gs vs w A)
 | [],gs,vs,h=>by cases h; cases vs<;>exact Iff.rfl
 | x :: l,gs,vs,h=>by
  unfold arsK at h
  split at h
  ·rename_i u r h1 h2
   cases h
   cases vs with
   | nil=>exact Iff.rfl
   | cons v vs=>exact and_congr (AR.lk_ok h1) (arsK_ok h2)
  ·cases h
theorem AV.lk_ok{x:AV}{g:FV}{v:Value}(h:x.lk L=some g):x.ok (gT L) σ v w A↔g.R v w A:=by
 cases x with
 | r x =>
  unfold AV.lk at h
  simp only at h
  split at h
  ·rename_i g' h1; cases h; exact AR.lk_ok (x:=x) h1
  ·cases h
 | tup l =>
  unfold AV.lk at h
  simp only at h
  split at h
  ·rename_i gs h1; cases h
   exact exists_congr fun vs=>and_congr Iff.rfl (arsK_ok h1)
  ·cases h
 | _=>cases h
end
section
variable{P:Program}{L:List GF}
def gs{hp' hp:Bool}{f:FuncId}{fa:List FR}{fr:FV}(h:SpecC P hp' f fa fr)(args:List AR)(res:AV)(ha:arsK L args=some fa:=by kernel_rfl)(hr:res.lk L=some fr:=by kernel_rfl)(hh:(!hp' || hp)=true:=by rfl):GC P L hp :=
 ⟨{ f,args,res },h.ent,fun σ w A us hR hA hu _=>by
  have hR':hp'=true→Rcv A w:=fun e=>hR (by subst e; simpa using hh)
  exact(h.ok w A us hR' hA ((arsK_ok ha).1 hu)).mono fun r w' ⟨v,h1,h2,h3⟩=>⟨v,h1,(AV.lk_ok hr).2 h2,h3⟩⟩
theorem ev_sp{hp:Bool}{tys:List (TypeId×TyI)}(ht:∀ p∈tys,p.2.good P p.1=true)(hm:P.follows .mixedOrders=true)(C:List (GC P L hp))(B:List (GB P L))(O:List (GO P L)){f:FuncId}{fn:Func}(hf:P.funcs[f]?=some fn)(ent:Enters P f)(fuel:Nat)(args:List AR)(res:AV)
  {fa:List FR} {fr:FV} (hev:evF (gcx tys hp L C B O) fn fuel args res=true:=by kernel_rfl) (ha:arsK L args=some fa:=by kernel_rfl) (hr:res.lk L=some fr:=by kernel_rfl):SpecC P hp f fa fr :=
 ⟨ent,fun w A vs hR hA hu=>(ev_gen ht hm C B O hf fuel args res hev w A vs hR hA ((arsK_ok ha).2 hu)).mono fun r w' ⟨v,h1,h2,h3⟩=>⟨v,h1,(AV.lk_ok hr).1 h2,h3⟩⟩
def gfV:List GF→Option (List Value)
 | []=>some []
 | g :: l=>match g.ex,gfV l with|some v,some vs=>some (v :: vs)|_,_=>none
def FR.val:FR→Option Value
 | .c g=>g.ex
 | .row l=>match gfV l with|some vs=>some (.agg vs.toArray)|none=>none
def frsV:List FR→Option (List Value)
 | []=>some []
 | x :: l=>match x.val,frsV l with|some v,some vs=>some (v :: vs)|_,_=>none
def FV.val:FV→Option Value
 | .r x=>x.val
 | .tup l=>match frsV l with|some vs=>some (.tuple vs.toArray)|none=>none
variable{w:World}{A:Nat→Prop}
theorem gfV_ok:∀{l:List GF} {us vs:List Value},gfV l=some us→(okg l vs w A↔vs=us)
 | [],us,vs,h=>by cases h; cases vs<;>simp[okg]
 | g :: l,us,vs,h=>by
  unfold gfV at h
  split at h
  ·rename_i u r h1 h2
   cases h
   cases vs with
   | nil=>simp[okg]
   | cons v vs=>simp only[okg,g.exact u h1,gfV_ok h2,List.cons.injEq]
  ·cases h
theorem FR.val_ok{x:FR}{u v:Value}(h:x.val=some u):x.R v w A↔v=u:=by
 cases x with
 | c g=>exact g.exact u h v w A
 | row l =>
  unfold FR.val at h
  simp only at h
  split at h
  ·rename_i vs h1
   cases h
   constructor
   ·rintro⟨us,rfl,h2⟩; rw[(gfV_ok h1).1 h2]
   ·rintro rfl; exact⟨_,rfl,(gfV_ok h1).2 rfl⟩
  ·cases h
theorem frsV_ok:∀{l:List FR} {us vs:List Value},frsV l=some us→(okf l vs w A↔vs=us)
 | [],us,vs,h=>by cases h; cases vs<;>simp[okf]
 | x :: l,us,vs,h=>by
  unfold frsV at h
  split at h
  ·rename_i u r h1 h2
   cases h
   cases vs with
   | nil=>simp[okf]
   | cons v vs=>simp only[okf,FR.val_ok h1,frsV_ok h2,List.cons.injEq]
  ·cases h
theorem FV.val_ok{x:FV}{u v:Value}(h:x.val=some u):x.R v w A↔v=u:=by
 cases x with
 | r x=>exact FR.val_ok (x:=x) h
 | tup l =>
  unfold FV.val at h
  simp only at h
  split at h
  ·rename_i vs h1
   cases h
   constructor
   ·rintro⟨us,rfl,h2⟩; rw[(frsV_ok h1).1 h2]
   ·rintro rfl; exact⟨_,rfl,(frsV_ok h1).2 rfl⟩
  ·cases h
theorem spec_pure{f:FuncId}{vs:List Value}{v:Value}{fa:List FR}{fr:FV}(ent:Enters P f)(h:PureC P f vs v)(ha:frsV fa=some vs)(hr:fr.val=some v):SpecC P false f fa fr :=
 ⟨ent,fun w A us _ _ hu=>by
  have e:us=vs:=(frsV_ok ha).1 hu
  subst e
  exact(h w).mono fun r w' h=>⟨v,h.1,(FV.val_ok hr).2 rfl,h.2⟩⟩
theorem SpecC.pure{hp:Bool}{f:FuncId}{vs:List Value}{v:Value}{fa:List FR}{fr:FV}(h:SpecC P hp f fa fr)(ha:frsV fa=some vs)(hr:fr.val=some v):PureC P f vs v:=fun w =>
 (h.ok w NoA vs (fun _=>rcv_none w) (fun _ h=>h.elim) ((frsV_ok ha).2 rfl)).mono fun r w' ⟨u,h1,h2,h3⟩=>⟨by rw[h1,(FV.val_ok hr).1 h2],h3⟩
theorem spec1{hp:Bool}{f:FuncId}{x:FR}{res:FV}(ent:Enters P f)(h:∀(w:World) (A:Nat→Prop) (u:Value),(hp=true→Rcv A w)→(∀ n,A n→n<w.heap.size)→x.R u w A→Calls P f #[u] w fun r w'=>∃ v,r=.returned v∧res.R v w' A∧Below w.heap.size w w'):SpecC P hp f [x] res :=
 ⟨ent,fun w A us hR hA hu=>by
  match us,hu with
  | [u],hu=>exact h w A u hR hA hu.1⟩
theorem spec2{hp:Bool}{f:FuncId}{x y:FR}{res:FV}(ent:Enters P f)(h:∀(w:World) (A:Nat→Prop) (u v:Value),(hp=true→Rcv A w)→(∀ n,A n→n<w.heap.size)→x.R u w A→y.R v w A→Calls P f #[u,v] w fun r w'=>∃ v,r=.returned v∧res.R v w' A∧Below w.heap.size w w'):SpecC P hp f [x,y] res :=
 ⟨ent,fun w A us hR hA hu=>by
  match us,hu with
  | [u,v],hu=>exact h w A u v hR hA hu.1 hu.2.1⟩
def sy(l:List Nat):AR:=.row (l.map .sym)
end
def ga:GF where
 R:=fun v _ _=>v.oneCell'=true∧∀(k:Unit) (x:Int),v≠.int .u32 x
 int:=false
 keeps:=fun _ _ _ _ _ _ _ h=>h
 cell:=fun v w A h=>h.1
 noint:=fun _ v w A h=>h.2
 ex:=none
 exact:=fun u e=>by cases e
def gai:GF where
 R:=fun v _ _=>v.oneCell'=true
 int:=true
 keeps:=fun _ _ _ _ _ _ _ h=>h
 cell:=fun v w A h=>h
 noint:=fun e=>by cases e
 ex:=none
 exact:=fun u e=>by cases e
def GF.any(g:GF):GF:=if g.int then gai else ga
def FR.any:FR→FR|.c g=>.c g.any|.row l=>.row (l.map GF.any)
def FV.any:FV→FV|.r x=>.r x.any|.tup l=>.tup (l.map FR.any)
section
variable{w:World}{A:Nat→Prop}
end
inductive FA where
 | f (x:FR)|sl (b off len cap:Nat)|own (b off:Nat)|fn (f:FuncId) (a b:List Nat)
def FA.R(σ:Sg):FA→Fact
 | .f x=>x.R
 | .sl b o n c=>fun v _ _=>∃ m,σ b=some m∧v=.slice (some ⟨m,o,none⟩) n c
 | .own b o=>fun v _ _=>∃ n,σ b=some n∧v=.pointer (some ⟨n,o,none⟩)
 | .fn g a b=>fun v _ _=>∃ us vs:List Value,v=.func (.func g) us.toArray vs.toArray∧ptrs σ a us∧ptrs σ b vs
def oka(σ:Sg):List FA→List Value→World→(Nat→Prop)→Prop
 | [],[],_,_=>True
 | x :: l,v :: vs,w,A=>x.R σ v w A∧oka σ l vs w A
 | _,_,_,_=>False
structure SpecM(P:Program)(hp:Bool)(f:FuncId)(bl:List (List GF×TypeId))(args:List FA)(res:FV):Prop where
 ent:Enters P f
 ok:∀(σ:Sg) (w:World) (A:Nat→Prop) (vs:List Value),(hp=true→Rcv A w)→(∀ n,A n→n<w.heap.size) →
  (∀ b gs ty,bl[b]?=some (gs,ty)→∃ n us,σ b=some n∧A n∧w.heap[n]?=some (.cells us.toArray ty (0,0))∧okg gs us w A)→(∀ b,bl.length≤b→σ b=none)→oka σ args vs w A →
  Calls P f vs.toArray w fun r w'=>∃ v,r=.returned v∧res.R v w' A∧Below w.heap.size w w'
section
variable{P:Program}{hp:Bool}{fi:FuncId}{bl:List (List GF×TypeId)}{a:List FA}{r s:FV}{c:Prop}[Decidable c]
theorem SpecM.it(h:c)(k:SpecM P hp fi bl a r):SpecM P hp fi bl a (if c then r else s):=by rw[if_pos h]; exact k
theorem SpecM.ie(h:¬c)(k:SpecM P hp fi bl a s):SpecM P hp fi bl a (if c then r else s):=by rw[if_neg h]; exact k
theorem SpecM.t(k:SpecM P hp fi bl a (if c then r else s))(h:c):SpecM P hp fi bl a r:=by rw[if_pos h] at k; exact k
theorem SpecM.f(k:SpecM P hp fi bl a (if c then r else s))(h:¬c):SpecM P hp fi bl a s:=by rw[if_neg h] at k; exact k
end
def AR.la(L:List GF):AR→Option FA
 | .c (.own b o)=>some (.own b o)
 | .c (.sl b o n k)=>some (.sl b o n k)
 | .c (.fn f a b)=>some (.fn f a b)
 | x=>match x.lk L with|some g=>some (.f g)|none=>none
section
variable{L:List GF}{σ:Sg}{w:World}{A:Nat→Prop}
end
section
variable{P:Program}{L:List GF}
end
end Tr
namespace Go.Proofs.YthklnbaddobieaaGreat
open Go.RowKit Tr
def gr(q:Rat):GF where
 R:=RatP q
 int:=false
 keeps:=RatP.keeps q
 cell:=fun v w A h=>by obtain⟨b,rfl,_⟩:=h; rfl
 noint:=fun _ v w A h k x=>by obtain⟨b,rfl,_⟩:=h; simp
 ex:=none
 exact:=fun u e=>by cases e
def rF(q:Rat):List GF:=[gx (.bool (decide (q.num<0))),gx (.string (strN q.num.natAbs)),gx (.bool false),gx (.string (strN q.den))]
def cq(z:QC):List GF:=[gr z.re,gr z.im]
section
variable{w:World}{A:Nat→Prop}{v:Value}
end
def zFA:List AC:=[.lit (.bool false),.lit .str0,.lit (.bool false),.lit .str0]
def zFG:List GF:=[gl (.bool false),gl .str0,gl (.bool false),gl .str0]
def B1(b:Bool):FV:=.r (.c (gx (.bool b)))
section
variable{L:List GF}
end
end Go.Proofs.YthklnbaddobieaaGreat
namespace Go.Proofs.YthklnbaddobieaaGreat
open Go.RowKit Tr
end Go.Proofs.YthklnbaddobieaaGreat
namespace Go.Proofs.YthklnbaddobieaaGreat
open Go.RowKit Tr
end Go.Proofs.YthklnbaddobieaaGreat
namespace Go.Proofs.YthklnbaddobieaaGreat
open Go.RowKit Tr
theorem RatO.shape{q:Rat}{v:Value}{w:World}{A:Nat→Prop}(h:RatO q v w A):∃ p,v=.pointer p:=by
 rcases h with⟨rfl,_⟩|h
 ·exact⟨none,rfl⟩
 ·obtain⟨m,rfl⟩:=h.shape
  exact⟨_,rfl⟩
def MayF(v:Value):Fact:=fun u w A=>(¬FracOk v∧u=.pointer none)∨∃ q,v=encF q∧FracOk v∧RatP q u w A
theorem MayF.keeps(v:Value):(MayF v).Keeps:=fun u w w' A A' hs hk h=>h.imp id (fun⟨q,e,f,h⟩=>⟨q,e,f,RatP.keeps q u w w' A A' hs hk h⟩)
def NQ(z:QC):Fact:=NumO z.re z.im
theorem NQ.keeps(z:QC):(NQ z).Keeps:=NumO.keeps _ _
def GaussOk(v:Value):Prop:=∃ z:QC,v=encG z.re z.im∧ShortF z.re∧ShortF z.im
end Go.Proofs.YthklnbaddobieaaGreat
namespace Go.Proofs.YthklnbaddobieaaGreat
open Go.RowKit Tr
def OfF(v0:Value):Fact:=fun u w A=>∃ z,NQ z u w A∧(GaussOk v0→v0=encG z.re z.im)
theorem OfF.keeps(v0:Value):(OfF v0).Keeps:=fun u w w' A A' hs hk ⟨z,h,e⟩=>⟨z,NQ.keeps z u w w' A A' hs hk h,e⟩
end Go.Proofs.YthklnbaddobieaaGreat
namespace Go.Proofs.YthklnbaddobieaaGreat
open Go.RowKit Tr
def cmpR(x y:Rat):Int:=if x<y then -1 else if x=y then 0 else 1
theorem cmpR_int(x y:Rat):cmpI (x.num*(y.den:Int)) (y.num*(x.den:Int))=cmpR x y:=by
 unfold cmpI cmpR
 have h1:x<y↔x.num*(y.den:Int)<y.num*(x.den:Int):=Rat.lt_iff x y
 have h2:y<x↔y.num*(x.den:Int)<x.num*(y.den:Int):=Rat.lt_iff y x
 by_cases hxy:x<y
 ·rw[if_pos (h1.1 hxy),if_pos hxy]
 ·rw[if_neg (fun h=>hxy (h1.2 h)),if_neg hxy]
  by_cases hyx:y<x
  ·rw[if_pos (h2.1 hyx),if_neg (fun e=>by subst e; exact hxy hyx)]
  ·rw[if_neg (fun h=>hyx (h2.2 h)),if_pos (Rat.le_antisymm (Rat.not_lt.1 hyx) (Rat.not_lt.1 hxy))]
set_option maxRecDepth 100000 in
theorem RCmp_any(x y:Rat)(vx vy:Value)(A:Nat→Prop)(w:World)(hx:RatP x vx w A)(hy:RatP y vy w A)(k l:Nat)(hlx:RL x k)(hly:RL y l)(hkl:k+l<137438953472) :
  Calls Tryz.prog 40 #[vx,vy] w fun e w'=>e=.returned (.int .i64 (cmpR x y))∧Below w.heap.size w w':=by
 have hx:=hx.noA
 have hy:=hy.noA
 obtain⟨b,rfl⟩:=hx.shape
 obtain⟨b2,rfl⟩:=hy.shape
 obtain⟨_,eb,hxn,_⟩:=id hx
 cases eb
 obtain⟨_,eb,hyn,_⟩:=id hy
 cases eb
 have l1:(words (x.num*(y.den:Int)).natAbs).length≤k+l:=by rw[Int.natAbs_mul]; exact wl_mul hlx.1 (by simpa using hly.2)
 have l2:(words (y.num*(x.den:Int)).natAbs).length≤k+l:=by rw[Int.natAbs_mul,Nat.add_comm]; exact wl_mul hly.1 (by simpa using hlx.2)
 obtain⟨cz,hcz⟩:∃ cz,cz=cmpR x y:=⟨_,rfl⟩
 rw[←hcz]
 have HZ:=Lib.hid hcz
 clear hcz
 go_enter Tryz.func40,Tryz.ntmps40
 go_wp2_with fail
 refine wp_region_inv [(.new zI,[]),(.lit,[]),(.lit,[]),(.lit,[]),(.lit,[]),(.val,[]),(.on 0 zI,[5]),(.new zI,[]),(.lit,[]),(.lit,[]),(.lit,[]),(.lit,[]),(.val,[]),(.on 7 zI,[12]),(.val,[6,13])]
  (pickF [(5,IntP y.den),(6,IntP (x.num*(y.den:Int))),(12,IntP x.den),(13,IntP (y.num*(x.den:Int))),(14,fun v _ _=>v=.int .i64 cz)]) (by kernel_rfl) ?_ ?_ (by simp[noW_zInt]) (by simp) (by kernel_rfl)
 ·exact keeps_pick (by simp[IntP.keeps,keeps_pure])
 ·refine⟨fun f w1=>by go_simp,?_⟩
  refine⟨_,fun f w1 h1=>by go_simp; rfl,?_⟩
  refine⟨_,fun f w1 h1=>by go_simp; rfl,?_⟩
  refine⟨_,fun f w1 h1=>by go_simp; rfl,?_⟩
  refine⟨_,fun f w1 h1=>by go_simp; rfl,?_⟩
  simp only[Act.put,nrA,nrB,nrC,Nat.reduceAdd]
  refine⟨fun f w1 A1 h1 hA hN hd K hK=>by
   go_simp
   refine(den_any y _ A1 w1 (later (RatP.keeps _) hy h1 hN) hA).mono ?_
   rintro e w' ⟨v,rfl,hb,hi⟩
   exact hK _ _ hb hi,?_⟩
  simp only[Act.put,nrA,nrB,nrC,Nat.reduceAdd]
  refine⟨fun f w1 A1 m1 h1 hA hN hAm hm0 e hz hd K hK=>by
   simp only[e] at hK ⊢
   have i1:IntP y.den (f 5) w1 A1:=hd 5 (by simp)
   go_simp
   refine(mul_any m1 0 _ _ x.num y.den _ _ A1 w1 hz (by decide) noW_zInt (later (IntP.keeps _) hxn h1 hN) i1 (by have:=hlx.1; omega) (by have:=hly.2; simp; omega)).mono ?_
   rintro e w' ⟨rfl,hp⟩
   exact hK _ w' hp.1 (hp.intP (by decide) hA),?_⟩
  refine⟨fun f w1=>by go_simp,?_⟩
  refine⟨_,fun f w1 h1=>by go_simp; rfl,?_⟩
  refine⟨_,fun f w1 h1=>by go_simp; rfl,?_⟩
  refine⟨_,fun f w1 h1=>by go_simp; rfl,?_⟩
  refine⟨_,fun f w1 h1=>by go_simp; rfl,?_⟩
  simp only[Act.put,nrA,nrB,nrC,Nat.reduceAdd]
  refine⟨fun f w1 A1 h1 hA hN hd K hK=>by
   go_simp
   refine(den_any x _ A1 w1 (later (RatP.keeps _) hx h1 hN) hA).mono ?_
   rintro e w' ⟨v,rfl,hb,hi⟩
   exact hK _ _ hb hi,?_⟩
  simp only[Act.put,nrA,nrB,nrC,Nat.reduceAdd]
  refine⟨fun f w1 A1 m1 h1 hA hN hAm hm0 e hz hd K hK=>by
   simp only[e] at hK ⊢
   have i1:IntP x.den (f 12) w1 A1:=hd 12 (by simp)
   go_simp
   refine(mul_any m1 0 _ _ y.num x.den _ _ A1 w1 hz (by decide) noW_zInt (later (IntP.keeps _) hyn h1 hN) i1 (by have:=hly.1; omega) (by have:=hlx.2; simp; omega)).mono ?_
   rintro e w' ⟨rfl,hp⟩
   exact hK _ w' hp.1 (hp.intP (by decide) hA),?_⟩
  simp only[Act.put,nrA,nrB,nrC,Nat.reduceAdd]
  refine⟨fun f w1 A1 h1 hA hN hd K hK=>by
   have i1:IntP (x.num*(y.den:Int)) (f 6) w1 A1:=hd 6 (by simp)
   have i2:IntP (y.num*(x.den:Int)) (f 13) w1 A1:=hd 13 (by simp)
   go_simp
   refine(Cmp_any _ _ _ _ A1 w1 i1 i2 (by omega) (by omega)).mono ?_
   rintro e w' ⟨rfl,hb⟩
   rw[cmpR_int,←HZ.out]
   exact hK _ _ hb rfl,?_⟩
  intro f w1 h1 hF
  have hv:f 14=.int .i64 cz:=hF.2
  clear hF
  simp only[Act.put,nrA,nrB,nrC]
  rw[hv]
  generalize f 5=v5
  generalize f 6=v6
  generalize f 12=v12
  generalize f 13=v13
  clear hv hx hy hxn hyn
  go_wp2
  go_ret
  exact⟨rfl,br.drew.trans h1⟩
end Go.Proofs.YthklnbaddobieaaGreat
set_option linter.unusedSimpArgs false
namespace Go.Proofs.YthklnbaddobieaaGreat
open Go.RowKit Tr
def frm8(cs:List Int)(a b n:BitVec 3):BitVec 3×BitVec 3×BitVec 3:=cs.foldl (fun s c=>(s.1*a - s.2.1*b+BitVec.ofInt 3 c*s.2.2,s.1*b+s.2.1*a,s.2.2*n)) (0,0,1)
def NoRoot(cs:List Int):Prop:=∀ a b n:BitVec 3,(frm8 cs a b n).1=0→(frm8 cs a b n).2.1=0→a.toNat % 2=0∧b.toNat % 2=0∧n.toNat % 2=0
instance (cs:List Int):Decidable (NoRoot cs):=by unfold NoRoot; infer_instance
def fg(s:QC):Nat→QC×QC
 | 0=>(⟨1,0⟩,⟨0,0⟩)
 | k+1=>(s*((fg s k).1 - (fg s k).2) - (fg s k).1,(fg s k).1 - (fg s k).2)
end Go.Proofs.YthklnbaddobieaaGreat
namespace Tr
end Tr
namespace Go.Proofs.YthklnbaddobieaaGreat
open Go.RowKit Tr
end Go.Proofs.YthklnbaddobieaaGreat
namespace Go.Proofs.YthklnbaddobieaaGreat
open Go.RowKit Tr
end Go.Proofs.YthklnbaddobieaaGreat
namespace Go.Proofs.YthklnbaddobieaaGreat
open Go.RowKit Tr
end Go.Proofs.YthklnbaddobieaaGreat
