/- Laws for the walk. -/
import Derived.Test.YtmimficdpfmfgaaGreatZaw
set_option linter.unusedVariables false
set_option maxHeartbeats 4000000
namespace Go.Proofs.YtmimficdpfmfgaaGreat
open Go.RowKit Tr
theorem BSl.below{w w':World}{v:Value}{s:ByteArray}(h:BSl w v s)(hb:Below w.heap.size w w'):BSl w' v s:=by
 obtain⟨b,off,cap,rfl,hlt,h⟩:=h
 exact⟨b,off,cap,rfl,Nat.lt_of_lt_of_le hlt hb.size,fun i hi=>(hb.cell (p:=⟨b,off+i,none⟩) hlt).trans (h i hi)⟩
theorem divInt_one(i:Int):Rat.divInt i 1=(i:Rat):=by
 have:=Rat.num_divInt_den (i:Rat)
 rw[Rat.num_intCast,Rat.den_intCast] at this
 simpa using this
set_option maxRecDepth 100000 in
theorem EInt_any(i j:Int)(hi0:-9223372036854775808≤i)(hi1:i<9223372036854775808)(hj0:-9223372036854775808≤j)(hj1:j<9223372036854775808)(A:Nat→Prop)(w:World)(hA:Rcv A w) :
  Calls Tryz.prog 79 #[.int .i64 i,.int .i64 j] w fun e w'=>∃ u,e=.returned u∧Below w.heap.size w w'∧NumO i j u w' A:=by
 obtain⟨W,hW⟩:∃ W,W=w.alloc (.cells #[.pointer none,.pointer none] 116):=⟨_,rfl⟩
 have hBW:Below w.heap.size w W:=by rw[hW]; exact br.alloc (Nat.le_refl _) _
 have hAW:Rcv (Mo A w.heap.size) W:=fun b h=>h.elim (fun h=>(hA.below hBW) b h) (fun h=>by subst h; rw[hW]; exact⟨_,heap_alloc_new w _,noW_num _ _ ⟨_,rfl⟩ ⟨_,rfl⟩ _⟩)
 have H1:=Lib.hid (NewRat_any i 1 hi0 hi1 (by decide) (by decide) (by decide) W)
 rw[divInt_one] at H1
 have HA:=Lib.hid (And.intro hW (And.intro hBW hAW))
 clear hBW hAW hA
 go_enter Tryz.func79,Tryz.ntmps79
 go_wp2_with fail
 rw[←hW]
 clear hW
 refine H1.out.mono ?_
 rintro e w1 ⟨v1,rfl,hn1⟩
 have H2:=Lib.hid (NewRat_any j 1 hj0 hj1 (by decide) (by decide) (by decide) w1)
 rw[divInt_one] at H2
 have HN1:=Lib.hid hn1
 clear hn1
 go_wp2_with fail
 refine H2.out.mono ?_
 rintro e w2 ⟨v2,rfl,hn2⟩
 have hr1:=(HN1.out.2 _ HA.out.2.2).below hn2.1
 have hr2:=hn2.2 _ (HA.out.2.2.below HN1.out.1)
 have hb2:=HN1.out.1.trans (hn2.1.mono HN1.out.1.size)
 obtain⟨c0,c1,f0,f1⟩:=new_two w (.pointer none) (.pointer none) 116 (by rw[←HA.out.1]; exact hb2)
 have HE:=Lib.hid (And.intro hr1 (And.intro hr2 (HA.out.2.1.trans (hb2.mono HA.out.2.1.size))))
 obtain⟨m1,rfl⟩:=hr1.shape
 obtain⟨m2,rfl⟩:=hr2.shape
 clear hr1 hr2 hb2 hn2 H1 H2 HN1
 go_wp2_with fail
 refine bodyPost_ret (v:=.agg #[.pointer (some ⟨m1,0,none⟩),.pointer (some ⟨m2,0,none⟩)]) (by simp[results,Tryz.results79,go_sem,c0,c1]) rfl ?_
 exact put_num HE.out.2.2 HE.out.1 HE.out.2.1 (Nat.le_refl _)
def Qaw(q:Rat):Prop:=(strN q.num.natAbs).size≤1024∧(strN q.den).size≤1024
instance (q:Rat):Decidable (Qaw q):=by unfold Qaw; infer_instance
def zF:Value:=.agg #[.bool false,.string ⟨#[]⟩,.bool false,.string ⟨#[]⟩]
def outF(q:Rat):Value:=if Qaw q then encF q else zF
def outC(q:Rat):Int:=if Qaw q then 0 else 4
set_option maxRecDepth 100000 in
theorem EFrac_any(q:Rat)(v:Value)(A:Nat→Prop)(w:World)(hx:RatO q v w A)(hl:RL q 137438953472) :
  Calls Tryz.prog 120 #[v] w fun e w'=>e=.returned (.tuple #[outF q,.int .i64 (outC q)])∧Below w.heap.size w w':=by
 have hal:Below w.heap.size w (w.alloc (.cells #[.bool false,.string ⟨#[]⟩,.bool false,.string ⟨#[]⟩] 26)):=br.alloc (Nat.le_refl _) _
 have H1:=Lib.hid (erat_any q v NoA _ ((Fact.Keeps.noA (RatO.keeps q) hx).below hal) (rcv_noA _))
 have hln:(words q.num.natAbs).length<274877906944:=by have:=hl.1; omega
 have hld:(words (q.den:Int).natAbs).length<274877906944:=by have:=hl.2; simp; omega
 have HL:=Lib.hid (And.intro hln hld)
 have HAL:=Lib.hid hal
 clear hx hal hln hld
 go_enter Tryz.func120,Tryz.ntmps120
 go_wp2_with fail
 refine H1.out.mono ?_
 rintro e w1 ⟨u,rfl,hb1,hr1⟩
 have HN:=Lib.hid (Num_any q u NoA w1 hr1 hl)
 have HR:=Lib.hid hr1
 clear hr1
 go_wp2_with fail
 refine HN.out.mono ?_
 rintro e w2 ⟨v2,rfl,hn2⟩
 have HB:=Lib.hid (Bytes_any q.num v2 NoA w2 (hn2.2 NoA (rcv_noA _)) HL.out.1)
 go_wp2_with fail
 refine HB.out.mono ?_
 rintro e w3 ⟨v3,rfl,hs3,hb3⟩
 have hb13:=hn2.1.trans (hb3.mono hn2.1.size)
 have HD:=Lib.hid (Denom_any q u NoA w3 (HR.out.below hb13) hl)
 go_wp2_with fail
 refine HD.out.mono ?_
 rintro e w4 ⟨v4,rfl,hn4⟩
 have HB2:=Lib.hid (Bytes_any q.den v4 NoA w4 (hn4.2 NoA (rcv_noA _)) HL.out.2)
 go_wp2_with fail
 refine HB2.out.mono ?_
 rintro e w5 ⟨v5,rfl,hs5,hb5⟩
 have hb35:=hn4.1.trans (hb5.mono hn4.1.size)
 have hb15:=hb13.trans (hb35.mono hb13.size)
 have hs3':=hs3.below hb35
 obtain⟨c0,c1,c2,c3,f0,f1,f2,f3⟩:=new_four w _ _ _ _ _ (hb1.trans (hb15.mono hb1.size))
 have hbw:Below w.heap.size w w5:=HAL.out.trans ((hb1.trans (hb15.mono hb1.size)).mono (by simp))
 obtain⟨t1,ht1⟩:∃ t1,t1=strN q.num.natAbs:=⟨_,rfl⟩
 obtain⟨t2,ht2⟩:∃ t2,t2=strN (q.den:Int).natAbs:=⟨_,rfl⟩
 rw[←ht1] at hs3'
 rw[←ht2] at hs5
 have kc1:=run_conv_str w5.drew v3 t1 (hs3'.below (br.drew))
 have kc2:=run_conv_str w5.drew v5 t2 (hs5.below (br.drew))
 obtain⟨p1,o1,q1,rfl,_⟩:=hs3'
 obtain⟨p2,o2,q2,rfl,_⟩:=hs5
 have HT:=Lib.hid (And.intro ht1 (And.intro ht2 hbw))
 have HSG:=Lib.hid (fun w (h:RatP q u w NoA)=>RSign_any q u NoA w h)
 have HR5:=Lib.hid (HR.out.below hb15)
 clear ht1 ht2 hs3 hb1 hb13 hb3 hb5 hb35 hb15 hn2 hn4 hbw HN HB HD HB2 H1
 have HZ:=Lib.hid (fun(h:¬Qaw q)=>show zF=outF q∧(4:Int)=outC q by unfold outF outC; rw[if_neg h,if_neg h]; exact⟨rfl,rfl⟩)
 have HY:=Lib.hid (fun(h:Qaw q)=>show encF q=outF q∧(0:Int)=outC q by unfold outF outC; rw[if_pos h,if_pos h]; exact⟨rfl,rfl⟩)
 by_cases g1:(1024:Int)<(t1.size:Int)
 ·have hno:¬Qaw q:=fun h=>by have h1:=h.1; rw[←HT.out.1] at h1; omega
  have HNO:=Lib.hid hno
  clear hno
  go_wp2_with fail
  refine bodyPost_ret (v:=.tuple #[zF,.int .i64 4]) (by unfold zF; simp[results,Tryz.results120,go_sem,c0,c1,c2,c3]) rfl ⟨by rw[(HZ.out HNO.out).1,(HZ.out HNO.out).2],?_⟩
  exact((((HT.out.2.2.setCell (p:=⟨w.heap.size,0,none⟩) (Nat.le_refl _) _).setCell (p:=⟨w.heap.size,1,none⟩) (Nat.le_refl _) _).setCell (p:=⟨w.heap.size,2,none⟩) (Nat.le_refl _) _).setCell (p:=⟨w.heap.size,3,none⟩) (Nat.le_refl _) _)
 ·by_cases g2:(1024:Int)<(t2.size:Int)
  ·have hno:¬Qaw q:=fun h=>by have h2:=h.2; have h3:=HT.out.2.1; simp only[Int.natAbs_natCast] at h3; rw[←h3] at h2; omega
   have HNO:=Lib.hid hno
   clear hno
   go_wp2_with fail
   refine bodyPost_ret (v:=.tuple #[zF,.int .i64 4]) (by unfold zF; simp[results,Tryz.results120,go_sem,c0,c1,c2,c3]) rfl ⟨by rw[(HZ.out HNO.out).1,(HZ.out HNO.out).2],?_⟩
   exact((((HT.out.2.2.setCell (p:=⟨w.heap.size,0,none⟩) (Nat.le_refl _) _).setCell (p:=⟨w.heap.size,1,none⟩) (Nat.le_refl _) _).setCell (p:=⟨w.heap.size,2,none⟩) (Nat.le_refl _) _).setCell (p:=⟨w.heap.size,3,none⟩) (Nat.le_refl _) _)
  ·have hyes:Qaw q:=⟨by rw[←HT.out.1]; omega,by have h3:=HT.out.2.1; simp only[Int.natAbs_natCast] at h3; rw[←h3]; omega⟩
   have HYES:=Lib.hid hyes
   clear hyes
   obtain⟨sg,hsg⟩:∃ sg,sg=q.num.sign:=⟨_,rfl⟩
   have HC:=Lib.hid (RSign_any q u NoA w5.drew (HR5.out.below (br.drew)))
   rw[←hsg] at HC
   have HG:Hid (encF q=.agg #[.bool (decide (sg<0)),.string t1,.bool false,.string t2]):=Lib.hid (by unfold encF; rw[hsg,sign_lt,HT.out.1,HT.out.2.1]; simp)
   clear hsg
   go_wp2_with fail
   refine wp_region_tail 10 (by kernel_rfl) (by kernel_rfl) ?_
   simp only[List.take_succ_cons,List.take_zero,List.drop_succ_cons,List.drop_zero]
   repeat (first|still_step|still_call (still_eq HC.out))
   refine wpStill_nil ?_
   go_wp2_with fail
   refine bodyPost_ret (v:=.tuple #[.agg #[.bool (decide (sg<0)),.string t1,.bool false,.string t2],.int .i64 0]) (by simp[results,Tryz.results120,go_sem,c0,c1,c2,c3]) rfl ⟨by rw[←HG.out,(HY.out HYES.out).1,(HY.out HYES.out).2],?_⟩
   exact((((HT.out.2.2.setCell (p:=⟨w.heap.size,0,none⟩) (Nat.le_refl _) _).setCell (p:=⟨w.heap.size,1,none⟩) (Nat.le_refl _) _).setCell (p:=⟨w.heap.size,2,none⟩) (Nat.le_refl _) _).setCell (p:=⟨w.heap.size,3,none⟩) (Nat.le_refl _) _).drew
end Go.Proofs.YtmimficdpfmfgaaGreat
namespace Tr
open Go Go.RowKit
section
variable{P:Program}{L:List GF}
def goLenS(t:TypeId)(ht:P.underlying t=some .string)(x:AC)(s:ByteArray)(res:AC)(hn:x.noown=true:=by rfl)(hx:x.gv L=some (.string s):=by rfl)(hr:res.gv L=some (.int .i64 (s.size:Nat)):=by rfl):GO P L :=
 goLenG t (.c x) res (fun w A u ty hu=>by
  have e:u=.string s:=(AC.gv_ok (x:=x) hx).1 hu
  subst e
  simp[Builtin.len_,run_underlying ht,goInt]) (by simpa[AR.noown,AR.cells] using hn) hr
theorem eqGuard_plain{t:TypeId}(h:P.eqGuardType P.depth t=false)(op:BinOp)(xo yo:Operand)(a b:Array Value)(w:World):(eqGuard op t xo yo (.agg a) (.agg b)).run P w=.ok () w:=by
 cases op<;>simp[eqGuard,h]
theorem agg_eql{t:TypeId}(h:P.eqGuardType P.depth t=false){a b:Array Value}{r:Bool}(he:∀ w,(binOp .eql t (.agg a) (.agg b)).run P w=.ok (.bool r) w):∀(xo yo:Operand) (w:World),(do eqGuard .eql t xo yo (.agg a) (.agg b); binOp .eql t (.agg a) (.agg b):Sem Value).run P w=.ok (.bool r) w:=by
 intro xo yo w
 rw[Sem.run_bind,eqGuard_plain h,Result.andThen_ok,he]
theorem agg_neq{t:TypeId}(h:P.eqGuardType P.depth t=false){a b:Array Value}{r:Bool}(he:∀ w,(binOp .eql t (.agg a) (.agg b)).run P w=.ok (.bool r) w):∀(xo yo:Operand) (w:World),(do eqGuard .neq t xo yo (.agg a) (.agg b); binOp .neq t (.agg a) (.agg b):Sem Value).run P w=.ok (.bool !r) w:=by
 intro xo yo w
 have e1:binOp .eql t (.agg a) (.agg b)=(do pure (.bool (←Op.equal t (.agg a) (.agg b)))):=rfl
 have e2:binOp .neq t (.agg a) (.agg b)=(do pure (.bool (!(←Op.equal t (.agg a) (.agg b))))):=rfl
 rw[Sem.run_bind,eqGuard_plain h,Result.andThen_ok,e2]
 have:=he w
 rw[e1,Sem.run_bind] at this
 rw[Sem.run_bind]
 cases hq:(Op.equal t (.agg a) (.agg b)).run P w with
 | ok v w' =>
  rw[hq] at this
  simp only[Result.andThen_ok,Sem.run_pure,Result.ok.injEq,Value.bool.injEq] at this ⊢
  exact⟨by rw[this.1],this.2⟩
 | halt x w'=>rw[hq] at this; cases this
end
end Tr
namespace Go.Proofs.YtmimficdpfmfgaaGreat
open Go.RowKit Tr
set_option maxRecDepth 100000 in
theorem run_eql_w(w:World)(n1 m1:Bool)(s1 t1:ByteArray)(r:Bool)(hr:r=true↔Value.agg #[.bool n1,.string s1]=.agg #[.bool m1,.string t1]) :
  (binOp .eql 24 (.agg #[.bool n1,.string s1]) (.agg #[.bool m1,.string t1])).run Tryz.prog w=.ok (.bool r) w:=by
 simp only[Value.agg.injEq,Array.mk.injEq,List.cons.injEq,Value.bool.injEq,Value.string.injEq,and_true] at hr
 go_simp
 simp only[toL_iff]
 cases r
 ·have hn:¬(n1=m1∧s1=t1):=fun h=>by cases hr.2 h
  repeat' split
  all_goals first
   | rfl
   | (exfalso; apply hn; refine⟨?_,?_⟩<;>assumption)
 ·obtain⟨rfl,rfl⟩:=hr.1 rfl
  simp
theorem encZ_inj{x y:Int}(h:encZ x=encZ y):x=y:=by
 unfold encZ at h
 simp only[Value.agg.injEq,Array.mk.injEq,List.cons.injEq,Value.bool.injEq,Value.string.injEq,and_true] at h
 have h2:=strN_inj h.2
 by_cases hx:x<0<;>by_cases hy:y<0<;>simp[hx,hy] at h<;>omega
theorem ffits(n1 n2:Bool)(s1 s2:ByteArray)(r:Bool)(hr:r=decide (s1.size≤1024∧s2.size≤1024)):PureC Tryz.prog 132 [.agg #[.bool n1,.string s1,.bool n2,.string s2]] (.bool r):=by
 by_cases h1:s1.size≤1024
 ·exact ev_pure (hp:=false) (L:=[gx (.bool n1),gx (.string s1),gx (.bool n2),gx (.string s2),gx (.int .i64 (s1.size:Nat)),gx (.int .i64 (s2.size:Nat)),gx (.bool r)]) tys_ok mixed []
   [gbInt .leq 3 .i64 (.sym 4) (.lit (.int .i64 1024)) _ _ true (by simp[cmpB]; omega) rfl rfl,gb .leq 3 (.c (.sym 5)) (.c (.lit (.int .i64 1024))) (.sym 6) (int_cmp .leq _ .i64 _ _ r (by simp[cmpB,hr,h1]; omega)) rfl rfl rfl]
   [goLenS 9 Tryz.underlying9 (.sym 1) s1 (.sym 4) rfl rfl rfl,goLenS 9 Tryz.underlying9 (.sym 3) s2 (.sym 5) rfl rfl rfl]
   Tryz.func132 100 [.row [.sym 0,.sym 1,.sym 2,.sym 3]] (.r (.c (.sym 6))) (by kernel_rfl) rfl rfl
 ·have hr':r=false:=by rw[hr]; simp[h1]
  subst hr'
  exact ev_pure (hp:=false) (L:=[gx (.bool n1),gx (.string s1),gx (.bool n2),gx (.string s2),gx (.int .i64 (s1.size:Nat))]) tys_ok mixed []
   [gbInt .leq 3 .i64 (.sym 4) (.lit (.int .i64 1024)) _ _ false (by simp[cmpB]; omega) rfl rfl]
   [goLenS 9 Tryz.underlying9 (.sym 1) s1 (.sym 4) rfl rfl rfl]
   Tryz.func132 100 [.row [.sym 0,.sym 1,.sym 2,.sym 3]] (.r (.c (.lit (.bool false)))) (by kernel_rfl) rfl rfl
theorem wform_cells{neg:Bool}{s:ByteArray}(h:WForm neg s):neg=decide (sgn neg (numS s)<0)∧s=strN (sgn neg (numS s)).natAbs:=by
 have:=h.enc
 unfold encZ at this
 simpa using this
theorem wform_z(z:Int):WForm (decide (z<0)) (strN z.natAbs):=by
 refine⟨fun h0=>?_,noLead_strN _⟩
 have h1:=(numS_zero (noLead_strN z.natAbs)).2 h0
 rw[numS_strN] at h1
 simp; omega
theorem WL.str{n:Nat}{s:ByteArray}{k:Nat}(h:numS s=n)(hs:s.size≤k):WL n k:=Nat.le_trans (wl_size h) hs
theorem fformed (n1 n2 : Bool) (s1 s2 : ByteArray) (h1 : s1.size ≤ 536870912) (h2 : s2.size ≤ 536870912) (r : Bool) (hr : r = true ↔ ∃ q : Rat,Value.agg #[.bool n1,.string s1,.bool n2,.string s2] = encF q) :
    PureC Tryz.prog 154 [.agg #[.bool n1,.string s1,.bool n2,.string s2]] (.bool r):=by
  by_cases w1:WForm n1 s1
  · by_cases w2:WForm n2 s2
    · obtain⟨e1,e2⟩:=wform_cells w1
      obtain⟨e3,e4⟩:=wform_cells w2
      have la:WL (sgn n1 (numS s1)).natAbs 536870912:=by rw[natAbs_sgn]; exact WL.str rfl h1
      have lb:WL (sgn n2 (numS s2)).natAbs 536870912:=by rw[natAbs_sgn]; exact WL.str rfl h2
      obtain⟨a,ha⟩:∃ a,a=sgn n1 (numS s1):=⟨_,rfl⟩
      obtain⟨b,hb⟩:∃ b,b=sgn n2 (numS s2):=⟨_,rfl⟩
      rw[←ha] at e1 e2 la
      rw[←hb] at e3 e4 lb
      clear ha hb
      subst e1; subst e2; subst e3; subst e4
      have hq:(∃ q:Rat,Value.agg #[.bool (decide (a<0)),.string (strN a.natAbs),.bool (decide (b<0)),.string (strN b.natAbs)]=encF q)↔0<b∧Nat.gcd a.natAbs b.natAbs=1:=by
        constructor
        · rintro⟨q,hq⟩
          obtain⟨k1,k2,k3,k4⟩:=encF_parts hq
          have k5:=strN_inj k4
          have k6:=strN_inj k2
          have k7:=q.den_nz
          have k8:=q.reduced
          have k9:¬b<0:=by simpa using k3
          refine⟨by omega,?_⟩
          rw[k5,k6]; exact k8
        · rintro⟨k1,k2⟩
          refine⟨⟨a,b.natAbs,by omega,k2⟩,?_⟩
          unfold encF
          have:¬b<0:=by omega
          simp[this]
      rw[hq] at hr
      have f1:=sformed (decide (a<0)) (strN a.natAbs) true (by simp[w1])
      have f2:=sformed (decide (b<0)) (strN b.natAbs) true (by simp[w2])
      by_cases hb:0<b
      · have ho:=sof 1 (by decide) (by decide)
        have hg:=sgcd a b la lb
        obtain⟨g,hgd⟩:∃ g,g=Nat.gcd a.natAbs b.natAbs:=⟨_,rfl⟩
        rw[←hgd] at hg hr
        exact ev_pure (hp:=false) (L:=cz a++cz b++cz (g:Int)++cz 1++[gx (.bool r),gx (.int .i64 b.sign)]) tys_ok mixed
          [gp 233 [.row (zA 0)] (.r (.c (.lit (.bool true)))) eo233 f1 rfl rfl,gp 233 [.row (zA 2)] (.r (.c (.lit (.bool true)))) eo233 f2 rfl rfl,gp 193 [.row (zA 2)] (.r (.c (.sym 9))) eo193 (ssign b) rfl rfl,gp 234 [.row (zA 0),.row (zA 2)] (.r (.row (zA 4))) eo234 hg rfl rfl,gp 145 [.c (.lit (.int .i64 1))] (.r (.row (zA 6))) eo145 ho rfl rfl]
          [gbInt .leq 3 .i64 (.sym 9) (.lit (.int .i64 0)) _ _ false (by rw[Int.sign_eq_one_of_pos hb]; rfl) rfl rfl,gb .eql 24 (.row (zA 4)) (.row (zA 6)) (.sym 8) (agg_eql (by kernel_rfl) (fun w=>run_eql_w w _ _ _ _ r (by
             rw[hr]; constructor
             · rintro⟨_,h⟩; rw[h]; rfl
             · intro h; have:=encZ_inj (x:=(g:Int)) (y:=1) h; exact⟨hb,by omega⟩))) rfl rfl rfl] []
          Tryz.func154 100 [.row (zA 0++zA 2)] (.r (.c (.sym 8))) (by kernel_rfl) rfl rfl
      · have hr':r=false:=by cases r; rfl; exact absurd (hr.1 rfl).1 hb
        subst hr'
        exact ev_pure (hp:=false) (L:=cz a++cz b++[gx (.int .i64 b.sign)]) tys_ok mixed
          [gp 233 [.row (zA 0)] (.r (.c (.lit (.bool true)))) eo233 f1 rfl rfl,gp 233 [.row (zA 2)] (.r (.c (.lit (.bool true)))) eo233 f2 rfl rfl,gp 193 [.row (zA 2)] (.r (.c (.sym 4))) eo193 (ssign b) rfl rfl]
          [gbInt .leq 3 .i64 (.sym 4) (.lit (.int .i64 0)) _ _ true (by
            have:b.sign≤0:=by rcases Int.lt_trichotomy b 0 with h|h|h<;>first|(rw[Int.sign_eq_neg_one_of_neg h]; decide)|(subst h; decide)|omega
            simp[cmpB,this]) rfl rfl] []
          Tryz.func154 100 [.row (zA 0++zA 2)] (.r (.c (.lit (.bool false)))) (by kernel_rfl) rfl rfl
    · have hr' : r = false := by
        cases r; rfl
        obtain⟨q,e⟩:=hr.1 rfl
        obtain⟨k1,k2,k3,k4⟩:=encF_parts e
        exfalso; apply w2
        have:=wform_z (q.den:Int)
        rw[show decide ((q.den:Int)<0)=false by simp] at this
        rw[k3,k4]; simpa using this
      subst hr'
      exact ev_pure (hp:=false) (L:=[gx (.bool n1),gx (.string s1),gx (.bool n2),gx (.string s2)]) tys_ok mixed
        [gp 233 [.row (zA 0)] (.r (.c (.lit (.bool true)))) eo233 (sformed n1 s1 true (by simp[w1])) rfl rfl,gp 233 [.row (zA 2)] (.r (.c (.lit (.bool false)))) eo233 (sformed n2 s2 false (by simp[w2])) rfl rfl] [] []
        Tryz.func154 100 [.row (zA 0++zA 2)] (.r (.c (.lit (.bool false)))) (by kernel_rfl) rfl rfl
  · have hr' : r = false := by
      cases r; rfl
      obtain⟨q,e⟩:=hr.1 rfl
      obtain⟨k1,k2,k3,k4⟩:=encF_parts e
      exfalso; apply w1
      rw[k1,k2]; exact wform_z _
    subst hr'
    exact ev_pure (hp:=false) (L:=[gx (.bool n1),gx (.string s1),gx (.bool n2),gx (.string s2)]) tys_ok mixed
      [gp 233 [.row (zA 0)] (.r (.c (.lit (.bool false)))) eo233 (sformed n1 s1 false (by simp[w1])) rfl rfl] [] []
      Tryz.func154 100 [.row (zA 0++zA 2)] (.r (.c (.lit (.bool false)))) (by kernel_rfl) rfl rfl
theorem fmay (n1 n2 : Bool) (s1 s2 : ByteArray) (r : Bool) (hr : r = true ↔ FracOk (.agg #[.bool n1,.string s1,.bool n2,.string s2])) :
    PureC Tryz.prog 57 [.agg #[.bool n1,.string s1,.bool n2,.string s2]] (.bool r):=by
  by_cases h:s1.size≤1024∧s2.size≤1024
  · have hf := fformed n1 n2 s1 s2 (by omega) (by omega) r (by
      rw[hr]
      constructor
      · rintro⟨q,e,_⟩; exact⟨q,e⟩
      · rintro⟨q,e⟩
        obtain⟨k1,k2,k3,k4⟩:=encF_parts e
        exact⟨q,e,by rw[←k2]; exact h.1,by rw[←k4]; exact h.2⟩)
    exact ev_pure (hp:=false) (L:=[gx (.bool n1),gx (.string s1),gx (.bool n2),gx (.string s2),gx (.bool r)]) tys_ok mixed
      [gp 132 [.row (zA 0++zA 2)] (.r (.c (.lit (.bool true)))) eo132 (ffits n1 n2 s1 s2 true (by simp[h])) rfl rfl,gp 154 [.row (zA 0++zA 2)] (.r (.c (.sym 4))) eo154 hf rfl rfl] [] []
      Tryz.func57 100 [.row (zA 0++zA 2)] (.r (.c (.sym 4))) (by kernel_rfl) rfl rfl
  · have hr' : r = false := by
      cases r; rfl
      obtain⟨q,e,k⟩:=hr.1 rfl
      obtain⟨k1,k2,k3,k4⟩:=encF_parts e
      exfalso; apply h
      rw[k2,k4]; exact k
    subst hr'
    exact ev_pure (hp:=false) (L:=[gx (.bool n1),gx (.string s1),gx (.bool n2),gx (.string s2)]) tys_ok mixed
      [gp 132 [.row (zA 0++zA 2)] (.r (.c (.lit (.bool false)))) eo132 (ffits n1 n2 s1 s2 false (by simp[h])) rfl rfl] [] []
      Tryz.func57 100 [.row (zA 0++zA 2)] (.r (.c (.lit (.bool false)))) (by kernel_rfl) rfl rfl
def RatB(base:Nat)(q:Rat):Fact:=fun v w A=>∃ m C,v=.pointer (some ⟨m,0,none⟩)∧base≤m∧¬A m∧w.heap[m]?=some (.cells C 232 (0,0))∧C.size=4∧NoW (.cells C 232 (0,0))∧RatP q v w A
theorem RatB.keeps(base:Nat)(q:Rat):(RatB base q).Keeps:=by
 intro v w w' A A' hs hk ⟨m,C,h1,h2,h3,h4,h5,h6,h7⟩
 obtain⟨k1,k2⟩:=hk m (Array.getElem?_eq_some_iff.1 h4).1 h3
 exact⟨m,C,h1,h2,k2,k1.trans h4,h5,h6,RatP.keeps q _ _ _ _ _ hs hk h7⟩
theorem PutR.ratB{m base:Nat}{q:Rat}{w w':World}(h:PutR m q w w'){A0 A:Nat→Prop}(hA0:Rcv A0 w)(hA:Rcv A w)(hm:base≤m)(h0:∀ b,A0 b→b<base):FactU A0 (RatB base q) (.pointer (some ⟨m,0,none⟩)) w' (fun b=>A b∧b≠m):=by
 have hr:=h.ratU hA0 hA hm h0
 obtain⟨_,s1,s2,h2,h3,h4⟩:=h
 refine⟨m,_,rfl,hm,?_,h2,rfl,?_,hr⟩
 ·rintro(h|h)
  ·exact h.2 rfl
  ·have:=h0 m h; omega
 ·obtain⟨p1,c1,rfl,_⟩:=h3
  obtain⟨p2,c2,rfl,_⟩:=h4
  intro cs T fr e i k x
  cases e
  rcases i with _|_|_|_|i<;>simp
def CP(a b:Rat):Fact:=fun v w A=>∃ u1 u2,v=.agg #[u1,u2]∧RatP a u1 w A∧RatP b u2 w A
theorem CP.keeps(a b:Rat):(CP a b).Keeps:=fun v w w' A A' hs hk ⟨u1,u2,h1,h2,h3⟩=>⟨u1,u2,h1,RatP.keeps a _ _ _ _ _ hs hk h2,RatP.keeps b _ _ _ _ _ hs hk h3⟩
theorem CP.below{a b:Rat}{v:Value}{w w':World}{A:Nat→Prop}(h:CP a b v w A)(hb:Below w.heap.size w w'):CP a b v w' A:=Fact.Keeps.below (CP.keeps a b) hb h
theorem Qdd{X:World}{o:Obj}{n i:Nat}(h:n<X.heap.size):(X.alloc o).cell? ⟨n,i,none⟩=X.cell? ⟨n,i,none⟩ :=
 ((Below.refl X.heap.size X).alloc (Nat.le_refl _) o).cell (p:=⟨n,i,none⟩) h
theorem setCell_size(X:World)(a:Addr)(v:Value):(X.setCell a v).heap.size=X.heap.size:=by simp[World.setCell]
def encG(a b:Rat):Value:=.agg #[.bool (decide (a.num<0)),.string (strN a.num.natAbs),.bool false,.string (strN a.den),.bool (decide (b.num<0)),.string (strN b.num.natAbs),.bool false,.string (strN b.den)]
theorem new_eight(w:World)(x0 x1 x2 x3 x4 x5 x6 x7:Value)(T:TypeId){w1:World}(h:Below (w.alloc (.cells #[x0,x1,x2,x3,x4,x5,x6,x7] T)).heap.size (w.alloc (.cells #[x0,x1,x2,x3,x4,x5,x6,x7] T)) w1) :
  w1.cell? ⟨w.heap.size,0,none⟩=some x0∧w1.cell? ⟨w.heap.size,1,none⟩=some x1∧w1.cell? ⟨w.heap.size,2,none⟩=some x2∧w1.cell? ⟨w.heap.size,3,none⟩=some x3∧w1.cell? ⟨w.heap.size,4,none⟩=some x4∧w1.cell? ⟨w.heap.size,5,none⟩=some x5∧w1.cell? ⟨w.heap.size,6,none⟩=some x6∧w1.cell? ⟨w.heap.size,7,none⟩=some x7:=by
 have e:=(h.block w.heap.size (by simp)).trans (heap_alloc_new w _)
 simp[World.cell?,e]
theorem frozen_eight(w:World)(x0 x1 x2 x3 x4 x5 x6 x7:Value)(T:TypeId){w1:World}(h:Below (w.alloc (.cells #[x0,x1,x2,x3,x4,x5,x6,x7] T)).heap.size (w.alloc (.cells #[x0,x1,x2,x3,x4,x5,x6,x7] T)) w1) :
  w1.frozen? ⟨w.heap.size,0,none⟩=false∧w1.frozen? ⟨w.heap.size,1,none⟩=false∧w1.frozen? ⟨w.heap.size,2,none⟩=false∧w1.frozen? ⟨w.heap.size,3,none⟩=false∧w1.frozen? ⟨w.heap.size,4,none⟩=false∧w1.frozen? ⟨w.heap.size,5,none⟩=false∧w1.frozen? ⟨w.heap.size,6,none⟩=false∧w1.frozen? ⟨w.heap.size,7,none⟩=false:=by
 have e:=(h.block w.heap.size (by simp)).trans (heap_alloc_new w _)
 simp[World.frozen?,e]
set_option maxRecDepth 100000 in
theorem GInt_any(i j:Int)(hi0:-9223372036854775808≤i)(hi1:i<9223372036854775808)(hj0:-9223372036854775808≤j)(hj1:j<9223372036854775808)(w:World) :
  Calls Tryz.prog 73 #[.int .i64 i,.int .i64 j] w fun e w'=>e=.returned (encG i j)∧Below w.heap.size w w':=by
 have hal:Below w.heap.size w (w.alloc (.cells #[.bool false,.string ⟨#[]⟩,.bool false,.string ⟨#[]⟩,.bool false,.string ⟨#[]⟩,.bool false,.string ⟨#[]⟩] 28)):=br.alloc (Nat.le_refl _) _
 have H1:=Lib.hid (fun w=>FInt_any i hi0 hi1 w)
 have H2:=Lib.hid (fun w=>FInt_any j hj0 hj1 w)
 obtain⟨b1,t1,t2,he1⟩:=encF_two (i:Rat)
 obtain⟨b2,t3,t4,he2⟩:=encF_two (j:Rat)
 have HE:=Lib.hid (show encG i j=.agg #[.bool b1,.string t1,.bool false,.string t2,.bool b2,.string t3,.bool false,.string t4] by
  unfold encF at he1 he2
  simp only[Value.agg.injEq,Array.mk.injEq,List.cons.injEq,Value.bool.injEq,Value.string.injEq,and_true] at he1 he2
  unfold encG
  rw[he1.1,he1.2.1,he1.2.2.2,he2.1,he2.2.1,he2.2.2.2])
 rw[he1] at H1
 rw[he2] at H2
 have HA:=Lib.hid hal
 clear he1 he2 hal
 go_enter Tryz.func73,Tryz.ntmps73
 go_wp2_with fail
 refine(H1.out _).mono ?_
 rintro e w1 ⟨rfl,hb1⟩
 go_wp2_with fail
 refine(H2.out _).mono ?_
 rintro e w2 ⟨rfl,hb2⟩
 have hb12:=hb1.trans (hb2.mono hb1.size)
 obtain⟨c0,c1,c2,c3,c4,c5,c6,c7⟩:=new_eight w _ _ _ _ _ _ _ _ _ hb12
 obtain⟨f0,f1,f2,f3,f4,f5,f6,f7⟩:=frozen_eight w _ _ _ _ _ _ _ _ _ hb12
 have HB:=Lib.hid (HA.out.trans (hb12.mono (by simp)))
 clear hb1 hb2 hb12
 go_wp2_with fail
 refine bodyPost_ret (v:=.agg #[.bool b1,.string t1,.bool false,.string t2,.bool b2,.string t3,.bool false,.string t4]) (by simp[results,Tryz.results73,go_sem,c0,c1,c2,c3,c4,c5,c6,c7]) rfl ⟨by rw[HE.out],?_⟩
 exact((((((((HB.out.setCell (p:=⟨w.heap.size,0,none⟩) (Nat.le_refl _) _).setCell (p:=⟨w.heap.size,1,none⟩) (Nat.le_refl _) _).setCell (p:=⟨w.heap.size,2,none⟩) (Nat.le_refl _) _).setCell (p:=⟨w.heap.size,3,none⟩) (Nat.le_refl _) _).setCell (p:=⟨w.heap.size,4,none⟩) (Nat.le_refl _) _).setCell (p:=⟨w.heap.size,5,none⟩) (Nat.le_refl _) _).setCell (p:=⟨w.heap.size,6,none⟩) (Nat.le_refl _) _).setCell (p:=⟨w.heap.size,7,none⟩) (Nat.le_refl _) _)
def zG:Value:=.agg #[.bool false,.string ⟨#[]⟩,.bool false,.string ⟨#[]⟩,.bool false,.string ⟨#[]⟩,.bool false,.string ⟨#[]⟩]
def outG(a b:Rat):Value:=if Qaw a∧Qaw b then encG a b else zG
def outGC(a b:Rat):Int:=if Qaw a∧Qaw b then 0 else 4
theorem outF_four(q:Rat):∃ b1 t1 b2 t2,outF q=.agg #[.bool b1,.string t1,.bool b2,.string t2]:=by
 unfold outF
 split
 ·exact⟨_,_,_,_,rfl⟩
 ·exact⟨_,_,_,_,rfl⟩
theorem outC_zero{q:Rat}:outC q=0↔Qaw q:=by unfold outC; split<;>simp[*]
theorem outG_of{a b:Rat}(ha:Qaw a)(hb:Qaw b){b1 b2 b3 b4:Bool}{t1 t2 t3 t4:ByteArray}(e1:outF a=.agg #[.bool b1,.string t1,.bool b2,.string t2])(e2:outF b=.agg #[.bool b3,.string t3,.bool b4,.string t4]):outG a b=.agg #[.bool b1,.string t1,.bool b2,.string t2,.bool b3,.string t3,.bool b4,.string t4]:=by
 unfold outF at e1 e2
 rw[if_pos ha] at e1
 rw[if_pos hb] at e2
 unfold encF at e1 e2
 simp only[Value.agg.injEq,Array.mk.injEq,List.cons.injEq,Value.bool.injEq,Value.string.injEq,and_true] at e1 e2
 unfold outG
 rw[if_pos ⟨ha,hb⟩]
 unfold encG
 rw[e1.1,e1.2.1,e1.2.2.1,e1.2.2.2,e2.1,e2.2.1,e2.2.2.2]
 rw[e1.2.2.1] at e2
 rw[e2.2.2.1]
def PP(a b c d:Rat):Fact:=fun v w A=>∃ u1 u2 u3 u4,v=.agg #[u1,u2,u3,u4]∧RatP a u1 w A∧RatP b u2 w A∧RatP c u3 w A∧RatP d u4 w A
theorem PP.keeps(a b c d:Rat):(PP a b c d).Keeps:=fun v w w' A A' hs hk ⟨u1,u2,u3,u4,h0,h1,h2,h3,h4⟩=>⟨u1,u2,u3,u4,h0,RatP.keeps a _ _ _ _ _ hs hk h1,RatP.keeps b _ _ _ _ _ hs hk h2,RatP.keeps c _ _ _ _ _ hs hk h3,RatP.keeps d _ _ _ _ _ hs hk h4⟩
structure QC where
 re:Rat
 im:Rat
 deriving DecidableEq
namespace QC
instance:Mul QC:=⟨fun x y=>⟨x.re*y.re - x.im*y.im,x.re*y.im+x.im*y.re⟩⟩
instance:Add QC:=⟨fun x y=>⟨x.re+y.re,x.im+y.im⟩⟩
instance:Sub QC:=⟨fun x y=>⟨x.re - y.re,x.im - y.im⟩⟩
end QC
def ZL(z:QC)(k:Nat):Prop:=RL z.re k∧RL z.im k
theorem ZL.mono{z:QC}{k l:Nat}(h:ZL z k)(hl:k≤l):ZL z l:=⟨h.1.mono hl,h.2.mono hl⟩
theorem Qah{x y:QC}{k l:Nat}(hx:ZL x k)(hy:ZL y l):ZL (x*y) (k+l+(k+l)+1):=⟨RL_sub (RL_mul hx.1 hy.1) (RL_mul hx.2 hy.2),RL_add (RL_mul hx.1 hy.2) (RL_mul hx.2 hy.1)⟩
theorem Qay{x y:QC}{k l:Nat}(hx:ZL x k)(hy:ZL y l):ZL (x+y) (k+l+1):=⟨RL_add hx.1 hy.1,RL_add hx.2 hy.2⟩
def CQ(z:QC):Fact:=CP z.re z.im
theorem CQ.keeps(z:QC):(CQ z).Keeps:=CP.keeps _ _
def PQ(x y:QC):Fact:=PP x.re x.im y.re y.im
theorem PQ.keeps(x y:QC):(PQ x y).Keeps:=PP.keeps _ _ _ _
end Go.Proofs.YtmimficdpfmfgaaGreat
namespace Go.Proofs.YtmimficdpfmfgaaGreat
open Go.RowKit Tr
theorem Qdc(a:Rat):0≤a*a:=by
 rcases Rat.nonneg_total a with h|h
 ·exact Rat.mul_nonneg h h
 ·have:=Rat.mul_nonneg h h
  rwa[Rat.neg_mul,Rat.mul_neg,Rat.neg_neg] at this
theorem sq_zero{a b:Rat}(h:a*a+b*b=0):a=0:=by
 have h1:-(a*a)=b*b:=by
  have:-(a*a)+(a*a+b*b)=-(a*a)+0:=by rw[h]
  rw[←Rat.add_assoc,Rat.neg_add_cancel,Rat.zero_add,Rat.add_zero] at this
  exact this.symm
 have h2:=Rat.nonneg_antisymm (Qdc a) (by rw[h1]; exact Qdc b)
 rcases Rat.mul_eq_zero.1 h2 with h|h<;>exact h
theorem norm_zero{a b:Rat}:a*a+b*b=0↔a=0∧b=0:=by
 constructor
 ·intro h; exact⟨sq_zero h,sq_zero (by rw[Rat.add_comm]; exact h)⟩
 ·rintro⟨rfl,rfl⟩; decide +kernel
instance:Div QC:=⟨fun x y=>⟨(x.re*y.re - x.im*(-y.im))*(y.re*y.re+y.im*y.im)⁻¹,(x.re*(-y.im)+x.im*y.re)*(y.re*y.re+y.im*y.im)⁻¹⟩⟩
theorem ZL_div{x y:QC}{k l:Nat}(h0:y.re*y.re+y.im*y.im≠0)(hx:ZL x k)(hy:ZL y l):ZL (x / y) (k+l+(k+l)+1+(l+l+(l+l)+1)):=by
 have li:RL (y.re*y.re+y.im*y.im)⁻¹ (l+l+(l+l)+1):=RL_inv h0 (RL_add (RL_mul hy.1 hy.1) (RL_mul hy.2 hy.2))
 exact⟨RL_mul (RL_sub (RL_mul hx.1 hy.1) (RL_mul hx.2 (RL_neg hy.2))) li,RL_mul (RL_add (RL_mul hx.1 (RL_neg hy.2)) (RL_mul hx.2 hy.1)) li⟩
def encQ(z:QC):Value:=encG z.re z.im
abbrev Pt:=Option QC
def Qad(z:QC):Prop:=Qaw z.re∧Qaw z.im
theorem RL_short{q:Rat}(h:Qaw q):RL q 1024:=by
 refine⟨?_,?_⟩
 ·exact Nat.le_trans (wl_size (numS_strN _)) h.1
 ·exact Nat.le_trans (wl_size (numS_strN _)) h.2
theorem RL_one:RL 1 1024:=(RL_i64 1 (by decide) (by decide)).mono (by decide)
theorem Qaa{z:QC}(h:Qad z):ZL z 1024:=⟨RL_short h.1,RL_short h.2⟩
end Go.Proofs.YtmimficdpfmfgaaGreat
