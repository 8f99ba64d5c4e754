/- Laws for the walk. -/
import Derived.Test.YtplakbflfckldaaGreatYau
set_option linter.unusedVariables false
set_option maxHeartbeats 4000000
namespace Go.Proofs.YtplakbflfckldaaGreat
open Go.RowKit Tr
theorem BSl.below{w w':World}{v:Value}{s:ByteArray}(h:BSl w v s)(hb:Below w.heap.size w w'):BSl w' v s:=by
 obtain⟨b,off,cap,rfl,hlt,h⟩:=h
 exact⟨b,off,cap,rfl,Nat.lt_of_lt_of_le hlt hb.size,fun i hi=>(hb.cell (p:=⟨b,off+i,none⟩) hlt).trans (h i hi)⟩
theorem divInt_one(i:Int):Rat.divInt i 1=(i:Rat):=by
 have:=Rat.num_divInt_den (i:Rat)
 rw[Rat.num_intCast,Rat.den_intCast] at this
 simpa using this
set_option maxRecDepth 100000 in
theorem EInt_any(i j:Int)(hi0:-9223372036854775808≤i)(hi1:i<9223372036854775808)(hj0:-9223372036854775808≤j)(hj1:j<9223372036854775808)(A:Nat→Prop)(w:World)(hA:Rcv A w) :
  Calls Tryz.prog 99 #[.int .i64 i,.int .i64 j] w fun e w'=>∃ u,e=.returned u∧Below w.heap.size w w'∧NumO i j u w' A:=by
 obtain⟨W,hW⟩:∃ W,W=w.alloc (.cells #[.pointer none,.pointer none] 98):=⟨_,rfl⟩
 have hBW:Below w.heap.size w W:=by rw[hW]; exact br.alloc (Nat.le_refl _) _
 have hAW:Rcv (Mo A w.heap.size) W:=fun b h=>h.elim (fun h=>(hA.below hBW) b h) (fun h=>by subst h; rw[hW]; exact⟨_,heap_alloc_new w _,noW_num _ _ ⟨_,rfl⟩ ⟨_,rfl⟩ _⟩)
 have H1:=Lib.hid (NewRat_any i 1 hi0 hi1 (by decide) (by decide) (by decide) W)
 rw[divInt_one] at H1
 have HA:=Lib.hid (And.intro hW (And.intro hBW hAW))
 clear hBW hAW hA
 go_enter Tryz.func99,Tryz.ntmps99
 go_wp2_with fail
 rw[←hW]
 clear hW
 refine H1.out.mono ?_
 rintro e w1 ⟨v1,rfl,hn1⟩
 have H2:=Lib.hid (NewRat_any j 1 hj0 hj1 (by decide) (by decide) (by decide) w1)
 rw[divInt_one] at H2
 have HN1:=Lib.hid hn1
 clear hn1
 go_wp2_with fail
 refine H2.out.mono ?_
 rintro e w2 ⟨v2,rfl,hn2⟩
 have hr1:=(HN1.out.2 _ HA.out.2.2).below hn2.1
 have hr2:=hn2.2 _ (HA.out.2.2.below HN1.out.1)
 have hb2:=HN1.out.1.trans (hn2.1.mono HN1.out.1.size)
 obtain⟨c0,c1,f0,f1⟩:=new_two w (.pointer none) (.pointer none) 98 (by rw[←HA.out.1]; exact hb2)
 have HE:=Lib.hid (And.intro hr1 (And.intro hr2 (HA.out.2.1.trans (hb2.mono HA.out.2.1.size))))
 obtain⟨m1,rfl⟩:=hr1.shape
 obtain⟨m2,rfl⟩:=hr2.shape
 clear hr1 hr2 hb2 hn2 H1 H2 HN1
 go_wp2_with fail
 refine bodyPost_ret (v:=.agg #[.pointer (some ⟨m1,0,none⟩),.pointer (some ⟨m2,0,none⟩)]) (by simp[results,Tryz.results99,go_sem,c0,c1]) rfl ?_
 exact put_num HE.out.2.2 HE.out.1 HE.out.2.1 (Nat.le_refl _)
def ShortF(q:Rat):Prop:=(strN q.num.natAbs).size≤1024∧(strN q.den).size≤1024
instance (q:Rat):Decidable (ShortF q):=by unfold ShortF; infer_instance
def zF:Value:=.agg #[.bool false,.string ⟨#[]⟩,.bool false,.string ⟨#[]⟩]
def outF(q:Rat):Value:=if ShortF q then encF q else zF
def outC(q:Rat):Int:=if ShortF q then 0 else 4
set_option maxRecDepth 100000 in
theorem EFrac_any(q:Rat)(v:Value)(A:Nat→Prop)(w:World)(hx:RatO q v w A)(hl:RL q 137438953472) :
  Calls Tryz.prog 54 #[v] w fun e w'=>e=.returned (.tuple #[outF q,.int .i64 (outC q)])∧Below w.heap.size w w':=by
 have hal:Below w.heap.size w (w.alloc (.cells #[.bool false,.string ⟨#[]⟩,.bool false,.string ⟨#[]⟩] 34)):=br.alloc (Nat.le_refl _) _
 have H1:=Lib.hid (erat_any q v NoA _ ((Fact.Keeps.noA (RatO.keeps q) hx).below hal) (rcv_noA _))
 have hln:(words q.num.natAbs).length<274877906944:=by have:=hl.1; omega
 have hld:(words (q.den:Int).natAbs).length<274877906944:=by have:=hl.2; simp; omega
 have HL:=Lib.hid (And.intro hln hld)
 have HAL:=Lib.hid hal
 clear hx hal hln hld
 go_enter Tryz.func54,Tryz.ntmps54
 go_wp2_with fail
 refine H1.out.mono ?_
 rintro e w1 ⟨u,rfl,hb1,hr1⟩
 have HN:=Lib.hid (Num_any q u NoA w1 hr1 hl)
 have HR:=Lib.hid hr1
 clear hr1
 go_wp2_with fail
 refine HN.out.mono ?_
 rintro e w2 ⟨v2,rfl,hn2⟩
 have HB:=Lib.hid (Bytes_any q.num v2 NoA w2 (hn2.2 NoA (rcv_noA _)) HL.out.1)
 go_wp2_with fail
 refine HB.out.mono ?_
 rintro e w3 ⟨v3,rfl,hs3,hb3⟩
 have hb13:=hn2.1.trans (hb3.mono hn2.1.size)
 have HD:=Lib.hid (Denom_any q u NoA w3 (HR.out.below hb13) hl)
 go_wp2_with fail
 refine HD.out.mono ?_
 rintro e w4 ⟨v4,rfl,hn4⟩
 have HB2:=Lib.hid (Bytes_any q.den v4 NoA w4 (hn4.2 NoA (rcv_noA _)) HL.out.2)
 go_wp2_with fail
 refine HB2.out.mono ?_
 rintro e w5 ⟨v5,rfl,hs5,hb5⟩
 have hb35:=hn4.1.trans (hb5.mono hn4.1.size)
 have hb15:=hb13.trans (hb35.mono hb13.size)
 have hs3':=hs3.below hb35
 obtain⟨c0,c1,c2,c3,f0,f1,f2,f3⟩:=new_four w _ _ _ _ _ (hb1.trans (hb15.mono hb1.size))
 have hbw:Below w.heap.size w w5:=HAL.out.trans ((hb1.trans (hb15.mono hb1.size)).mono (by simp))
 obtain⟨t1,ht1⟩:∃ t1,t1=strN q.num.natAbs:=⟨_,rfl⟩
 obtain⟨t2,ht2⟩:∃ t2,t2=strN (q.den:Int).natAbs:=⟨_,rfl⟩
 rw[←ht1] at hs3'
 rw[←ht2] at hs5
 have kc1:=run_conv_str w5.drew v3 t1 (hs3'.below (br.drew))
 have kc2:=run_conv_str w5.drew v5 t2 (hs5.below (br.drew))
 obtain⟨p1,o1,q1,rfl,_⟩:=hs3'
 obtain⟨p2,o2,q2,rfl,_⟩:=hs5
 have HT:=Lib.hid (And.intro ht1 (And.intro ht2 hbw))
 have HSG:=Lib.hid (fun w (h:RatP q u w NoA)=>RSign_any q u NoA w h)
 have HR5:=Lib.hid (HR.out.below hb15)
 clear ht1 ht2 hs3 hb1 hb13 hb3 hb5 hb35 hb15 hn2 hn4 hbw HN HB HD HB2 H1
 have HZ:=Lib.hid (fun(h:¬ShortF q)=>show zF=outF q∧(4:Int)=outC q by unfold outF outC; rw[if_neg h,if_neg h]; exact⟨rfl,rfl⟩)
 have HY:=Lib.hid (fun(h:ShortF q)=>show encF q=outF q∧(0:Int)=outC q by unfold outF outC; rw[if_pos h,if_pos h]; exact⟨rfl,rfl⟩)
 by_cases g1:(1024:Int)<(t1.size:Int)
 ·have hno:¬ShortF q:=fun h=>by have h1:=h.1; rw[←HT.out.1] at h1; omega
  have HNO:=Lib.hid hno
  clear hno
  go_wp2_with fail
  refine bodyPost_ret (v:=.tuple #[zF,.int .i64 4]) (by unfold zF; simp[results,Tryz.results54,go_sem,c0,c1,c2,c3]) rfl ⟨by rw[(HZ.out HNO.out).1,(HZ.out HNO.out).2],?_⟩
  exact((((HT.out.2.2.setCell (p:=⟨w.heap.size,0,none⟩) (Nat.le_refl _) _).setCell (p:=⟨w.heap.size,1,none⟩) (Nat.le_refl _) _).setCell (p:=⟨w.heap.size,2,none⟩) (Nat.le_refl _) _).setCell (p:=⟨w.heap.size,3,none⟩) (Nat.le_refl _) _)
 ·by_cases g2:(1024:Int)<(t2.size:Int)
  ·have hno:¬ShortF q:=fun h=>by have h2:=h.2; have h3:=HT.out.2.1; simp only[Int.natAbs_natCast] at h3; rw[←h3] at h2; omega
   have HNO:=Lib.hid hno
   clear hno
   go_wp2_with fail
   refine bodyPost_ret (v:=.tuple #[zF,.int .i64 4]) (by unfold zF; simp[results,Tryz.results54,go_sem,c0,c1,c2,c3]) rfl ⟨by rw[(HZ.out HNO.out).1,(HZ.out HNO.out).2],?_⟩
   exact((((HT.out.2.2.setCell (p:=⟨w.heap.size,0,none⟩) (Nat.le_refl _) _).setCell (p:=⟨w.heap.size,1,none⟩) (Nat.le_refl _) _).setCell (p:=⟨w.heap.size,2,none⟩) (Nat.le_refl _) _).setCell (p:=⟨w.heap.size,3,none⟩) (Nat.le_refl _) _)
  ·have hyes:ShortF q:=⟨by rw[←HT.out.1]; omega,by have h3:=HT.out.2.1; simp only[Int.natAbs_natCast] at h3; rw[←h3]; omega⟩
   have HYES:=Lib.hid hyes
   clear hyes
   obtain⟨sg,hsg⟩:∃ sg,sg=q.num.sign:=⟨_,rfl⟩
   have HC:=Lib.hid (RSign_any q u NoA w5.drew (HR5.out.below (br.drew)))
   rw[←hsg] at HC
   have HG:Hid (encF q=.agg #[.bool (decide (sg<0)),.string t1,.bool false,.string t2]):=Lib.hid (by unfold encF; rw[hsg,sign_lt,HT.out.1,HT.out.2.1]; simp)
   clear hsg
   go_wp2_with fail
   refine wp_region_tail 10 (by kernel_rfl) (by kernel_rfl) ?_
   simp only[List.take_succ_cons,List.take_zero,List.drop_succ_cons,List.drop_zero]
   repeat (first|still_step|still_call (still_eq HC.out))
   refine wpStill_nil ?_
   go_wp2_with fail
   refine bodyPost_ret (v:=.tuple #[.agg #[.bool (decide (sg<0)),.string t1,.bool false,.string t2],.int .i64 0]) (by simp[results,Tryz.results54,go_sem,c0,c1,c2,c3]) rfl ⟨by rw[←HG.out,(HY.out HYES.out).1,(HY.out HYES.out).2],?_⟩
   exact((((HT.out.2.2.setCell (p:=⟨w.heap.size,0,none⟩) (Nat.le_refl _) _).setCell (p:=⟨w.heap.size,1,none⟩) (Nat.le_refl _) _).setCell (p:=⟨w.heap.size,2,none⟩) (Nat.le_refl _) _).setCell (p:=⟨w.heap.size,3,none⟩) (Nat.le_refl _) _).drew
end Go.Proofs.YtplakbflfckldaaGreat
namespace Tr
open Go Go.RowKit
section
variable{P:Program}{L:List GF}
theorem eqGuard_plain{t:TypeId}(h:P.eqGuardType P.depth t=false)(op:BinOp)(xo yo:Operand)(a b:Array Value)(w:World):(eqGuard op t xo yo (.agg a) (.agg b)).run P w=.ok () w:=by
 cases op<;>simp[eqGuard,h]
theorem agg_eql{t:TypeId}(h:P.eqGuardType P.depth t=false){a b:Array Value}{r:Bool}(he:∀ w,(binOp .eql t (.agg a) (.agg b)).run P w=.ok (.bool r) w):∀(xo yo:Operand) (w:World),(do eqGuard .eql t xo yo (.agg a) (.agg b); binOp .eql t (.agg a) (.agg b):Sem Value).run P w=.ok (.bool r) w:=by
 intro xo yo w
 rw[Sem.run_bind,eqGuard_plain h,Result.andThen_ok,he]
end
end Tr
namespace Go.Proofs.YtplakbflfckldaaGreat
open Go.RowKit Tr
end Go.Proofs.YtplakbflfckldaaGreat
namespace Go.Proofs.YtplakbflfckldaaGreat
open Go.RowKit Tr
def RatB(base:Nat)(q:Rat):Fact:=fun v w A=>∃ m C,v=.pointer (some ⟨m,0,none⟩)∧base≤m∧¬A m∧w.heap[m]?=some (.cells C 187 (0,0))∧C.size=4∧NoW (.cells C 187 (0,0))∧RatP q v w A
theorem RatB.keeps(base:Nat)(q:Rat):(RatB base q).Keeps:=by
 intro v w w' A A' hs hk ⟨m,C,h1,h2,h3,h4,h5,h6,h7⟩
 obtain⟨k1,k2⟩:=hk m (Array.getElem?_eq_some_iff.1 h4).1 h3
 exact⟨m,C,h1,h2,k2,k1.trans h4,h5,h6,RatP.keeps q _ _ _ _ _ hs hk h7⟩
theorem PutR.ratB{m base:Nat}{q:Rat}{w w':World}(h:PutR m q w w'){A0 A:Nat→Prop}(hA0:Rcv A0 w)(hA:Rcv A w)(hm:base≤m)(h0:∀ b,A0 b→b<base):FactU A0 (RatB base q) (.pointer (some ⟨m,0,none⟩)) w' (fun b=>A b∧b≠m):=by
 have hr:=h.ratU hA0 hA hm h0
 obtain⟨_,s1,s2,h2,h3,h4⟩:=h
 refine⟨m,_,rfl,hm,?_,h2,rfl,?_,hr⟩
 ·rintro(h|h)
  ·exact h.2 rfl
  ·have:=h0 m h; omega
 ·obtain⟨p1,c1,rfl,_⟩:=h3
  obtain⟨p2,c2,rfl,_⟩:=h4
  intro cs T fr e i k x
  cases e
  rcases i with _|_|_|_|i<;>simp
def CP(a b:Rat):Fact:=fun v w A=>∃ u1 u2,v=.agg #[u1,u2]∧RatP a u1 w A∧RatP b u2 w A
theorem CP.keeps(a b:Rat):(CP a b).Keeps:=fun v w w' A A' hs hk ⟨u1,u2,h1,h2,h3⟩=>⟨u1,u2,h1,RatP.keeps a _ _ _ _ _ hs hk h2,RatP.keeps b _ _ _ _ _ hs hk h3⟩
theorem CP.below{a b:Rat}{v:Value}{w w':World}{A:Nat→Prop}(h:CP a b v w A)(hb:Below w.heap.size w w'):CP a b v w' A:=Fact.Keeps.below (CP.keeps a b) hb h
theorem xbox_one(w:World)(u1 u2:Value)(A:Nat→Prop)(hA:Rcv A w) :
  ∃ W,Hid (W=(w.alloc (.cells #[u1,u2] 175)).alloc (.cells #[.pointer none,.pointer none] 175)∧Below w.heap.size w W∧Rcv (Mo A (w.heap.size+1)) W∧∀ w1,Below W.heap.size W w1→w1.cell? ⟨w.heap.size+1,0,none⟩=some (.pointer none)∧w1.cell? ⟨w.heap.size+1,1,none⟩=some (.pointer none)∧w1.frozen? ⟨w.heap.size+1,0,none⟩=false∧w1.frozen? ⟨w.heap.size+1,1,none⟩=false)∧w.heap.size<W.heap.size∧W.cell? ⟨w.heap.size,0,none⟩=some u1∧W.cell? ⟨w.heap.size,1,none⟩=some u2:=by
 have hb1:=(Below.refl (w.alloc (.cells #[u1,u2] 175)).heap.size (w.alloc (.cells #[u1,u2] 175))).alloc (Nat.le_refl _) (.cells #[.pointer none,.pointer none] 175)
 have hb:Below w.heap.size w ((w.alloc (.cells #[u1,u2] 175)).alloc (.cells #[.pointer none,.pointer none] 175)):=(br.alloc (Nat.le_refl _) _).alloc (by simp) _
 obtain⟨e0,e1,_⟩:=new_two w u1 u2 175 hb1
 have hz:(w.alloc (.cells #[u1,u2] 175)).heap.size=w.heap.size+1:=by simp
 have hn:=heap_alloc_new (w.alloc (.cells #[u1,u2] 175)) (.cells #[.pointer none,.pointer none] 175 (0,0))
 rw[hz] at hn
 refine⟨_,Lib.hid ⟨rfl,hb,fun b h=>h.elim (fun h=>(hA.below hb) b h) (fun h=>by subst h; exact⟨_,hn,noW_num _ _ ⟨_,rfl⟩ ⟨_,rfl⟩ _⟩),fun w1 h=>?_⟩,by simp; omega,e0,e1⟩
 have:=new_two (w.alloc (.cells #[u1,u2] 175)) (.pointer none) (.pointer none) 175 h
 rw[hz] at this
 exact this
theorem xbox_two(w:World)(u1 u2 u3 u4:Value)(A:Nat→Prop)(hA:Rcv A w) :
  ∃ W,Hid (W=((w.alloc (.cells #[u1,u2] 175)).alloc (.cells #[u3,u4] 175)).alloc (.cells #[.pointer none,.pointer none] 175)∧Below w.heap.size w W∧Rcv (Mo A (w.heap.size+2)) W∧∀ w1,Below W.heap.size W w1→w1.cell? ⟨w.heap.size+2,0,none⟩=some (.pointer none)∧w1.cell? ⟨w.heap.size+2,1,none⟩=some (.pointer none)∧w1.frozen? ⟨w.heap.size+2,0,none⟩=false∧w1.frozen? ⟨w.heap.size+2,1,none⟩=false)∧w.heap.size<W.heap.size∧w.heap.size+1<W.heap.size∧W.cell? ⟨w.heap.size,0,none⟩=some u1∧W.cell? ⟨w.heap.size,1,none⟩=some u2∧W.cell? ⟨w.heap.size+1,0,none⟩=some u3∧W.cell? ⟨w.heap.size+1,1,none⟩=some u4:=by
 obtain⟨w1,hw1⟩:∃ w1,w1=w.alloc (.cells #[u1,u2] 175):=⟨_,rfl⟩
 have hz1:w1.heap.size=w.heap.size+1:=by rw[hw1]; simp
 obtain⟨w2,hw2⟩:∃ w2,w2=w1.alloc (.cells #[u3,u4] 175):=⟨_,rfl⟩
 have hz2:w2.heap.size=w.heap.size+2:=by rw[hw2]; simp[hz1]
 have hb01:Below w.heap.size w w1:=by rw[hw1]; exact br.alloc (Nat.le_refl _) _
 have hb12:Below w1.heap.size w1 w2:=by rw[hw2]; exact br.alloc (Nat.le_refl _) _
 have hb23:Below w2.heap.size w2 (w2.alloc (.cells #[.pointer none,.pointer none] 175)):=br.alloc (Nat.le_refl _) _
 have hb13:=hb12.trans (hb23.mono hb12.size)
 have hb:Below w.heap.size w (w2.alloc (.cells #[.pointer none,.pointer none] 175)):=hb01.trans (hb13.mono hb01.size)
 obtain⟨e0,e1,_⟩:=new_two w u1 u2 175 (by rw[←hw1]; exact hb13)
 obtain⟨e2,e3,_⟩:=new_two w1 u3 u4 175 (by rw[←hw2]; exact hb23)
 have hn:=heap_alloc_new w2 (.cells #[.pointer none,.pointer none] 175 (0,0))
 rw[hz2] at hn
 rw[hz1] at e2 e3
 refine⟨w2.alloc (.cells #[.pointer none,.pointer none] 175),Lib.hid ⟨by rw[hw2,hw1],hb,fun b h=>h.elim (fun h=>(hA.below hb) b h) (fun h=>by subst h; exact⟨_,hn,noW_num _ _ ⟨_,rfl⟩ ⟨_,rfl⟩ _⟩),fun w1 h=>?_⟩,by simp; omega,by simp; omega,e0,e1,e2,e3⟩
 have:=new_two w2 (.pointer none) (.pointer none) 175 h
 rw[hz2] at this
 exact this
theorem put_c{a b:Rat}{v1 v2:Value}{w w1:World}{A:Nat→Prop}{n:Nat}(hb:Below w.heap.size w w1)(h1:RatP a v1 w1 (Mo A n))(h2:RatP b v2 w1 (Mo A n))(hn:w.heap.size≤n) :
  ∃ u,Ending.returned (.agg #[v1,v2])=.returned u∧Below w.heap.size w ((w1.setCell ⟨n,0,none⟩ v1).setCell ⟨n,1,none⟩ v2)∧CP a b u ((w1.setCell ⟨n,0,none⟩ v1).setCell ⟨n,1,none⟩ v2) A:=by
 refine⟨_,rfl,(hb.setCell (p:=⟨n,0,none⟩) hn _).setCell (p:=⟨n,1,none⟩) hn _,v1,v2,rfl,?_,?_⟩
 ·exact more_less _ (RatP.keeps a) (keep_set _ (RatP.keeps a) (keep_set _ (RatP.keeps a) h1))
 ·exact more_less _ (RatP.keeps b) (keep_set _ (RatP.keeps b) (keep_set _ (RatP.keeps b) h2))
set_option maxRecDepth 100000 in
theorem XAdd_any(a b c d:Rat)(v v':Value)(A:Nat→Prop)(w:World)(hv:CP a b v w A)(hv':CP c d v' w A)(hA:Rcv A w)(k l:Nat)(hla:RL a k)(hlb:RL b k)(hlc:RL c l)(hld:RL d l)(hkl:k+l<137438953472) :
  Calls Tryz.prog 164 #[v,v'] w fun e w'=>∃ u,e=.returned u∧Below w.heap.size w w'∧CP (a+c) (b+d) u w' A:=by
 obtain⟨u1,u2,rfl,h1,h2⟩:=hv
 obtain⟨u3,u4,rfl,h3,h4⟩:=hv'
 obtain⟨W,HV,hs1,hs2,e0,e1,e2,e3⟩:=xbox_two w u1 u2 u3 u4 A hA
 have h1:=new_more (RatP.keeps a) (n:=w.heap.size+2) HV.out.2.1 (by omega) h1
 have h2:=new_more (RatP.keeps b) (n:=w.heap.size+2) HV.out.2.1 (by omega) h2
 have h3:=new_more (RatP.keeps c) (n:=w.heap.size+2) HV.out.2.1 (by omega) h3
 have h4:=new_more (RatP.keeps d) (n:=w.heap.size+2) HV.out.2.1 (by omega) h4
 clear hA
 go_enter Tryz.func164,Tryz.ntmps164
 go_wp2_with fail
 rw[←HV.out.1]
 refine wp_region_inv [(.new zR,[]),(.lit,[]),(.lit,[]),(.lit,[]),(.lit,[]),(.on 0 zR,[]),(.new zR,[]),(.lit,[]),(.lit,[]),(.lit,[]),(.lit,[]),(.on 6 zR,[])]
  (pickF [(5,FactU (Mo A (w.heap.size+2)) (RatP (a+c))),(11,FactU (Mo A (w.heap.size+2)) (RatP (b+d)))]) (by kernel_rfl) ?_ ?_ (by simp[noW_zRat]) (by simp) (by kernel_rfl)
 ·exact keeps_pick (by simp only[List.mem_cons,List.not_mem_nil,or_false]; rintro p (rfl|rfl)<;>first|exact FactU.keeps (RatP.keeps _)|exact FactU.keeps (RatB.keeps _ _)|exact FactU.keeps (CP.keeps _ _))
 ·refine⟨fun f w1=>by go_simp,?_⟩
  refine⟨_,fun f w1 h1=>by(have d0:=ct h1 hs1 e0; have d1:=ct h1 hs1 e1; have d2:=ct h1 hs2 e2; have d3:=ct h1 hs2 e3; go_simp; rfl),?_⟩
  refine⟨_,fun f w1 h1=>by(have d0:=ct h1 hs1 e0; have d1:=ct h1 hs1 e1; have d2:=ct h1 hs2 e2; have d3:=ct h1 hs2 e3; go_simp; rfl),?_⟩
  refine⟨_,fun f w1 h1=>by(have d0:=ct h1 hs1 e0; have d1:=ct h1 hs1 e1; have d2:=ct h1 hs2 e2; have d3:=ct h1 hs2 e3; go_simp; rfl),?_⟩
  refine⟨_,fun f w1 h1=>by(have d0:=ct h1 hs1 e0; have d1:=ct h1 hs1 e1; have d2:=ct h1 hs2 e2; have d3:=ct h1 hs2 e3; go_simp; rfl),?_⟩
  simp only[Act.put,nrA,nrB,nrC,Nat.reduceAdd]
  refine⟨fun f w1 A1 m1 k1 hA hN hAm hm0 e hz hd K hK=>by
   simp only[e] at hK ⊢
   go_simp
   refine(RAdd_any m1 _ _ _ _ _ _ w1 hz (by decide) noW_zRat (later (FactU.keeps (RatP.keeps _)) h1 k1 hN) (later (FactU.keeps (RatP.keeps _)) h3 k1 hN) (k) (l) hla hlc (by omega)).mono ?_
   rintro e w' ⟨rfl,hp⟩
   exact hK _ w' hp.1 (hp.ratU (HV.out.2.2.1.below (br.drew.trans k1)) hA hm0 (fun b hb=>HV.out.2.2.1.lt hb)),?_⟩
  refine⟨fun f w1=>by go_simp,?_⟩
  refine⟨_,fun f w1 h1=>by(have d0:=ct h1 hs1 e0; have d1:=ct h1 hs1 e1; have d2:=ct h1 hs2 e2; have d3:=ct h1 hs2 e3; go_simp; rfl),?_⟩
  refine⟨_,fun f w1 h1=>by(have d0:=ct h1 hs1 e0; have d1:=ct h1 hs1 e1; have d2:=ct h1 hs2 e2; have d3:=ct h1 hs2 e3; go_simp; rfl),?_⟩
  refine⟨_,fun f w1 h1=>by(have d0:=ct h1 hs1 e0; have d1:=ct h1 hs1 e1; have d2:=ct h1 hs2 e2; have d3:=ct h1 hs2 e3; go_simp; rfl),?_⟩
  refine⟨_,fun f w1 h1=>by(have d0:=ct h1 hs1 e0; have d1:=ct h1 hs1 e1; have d2:=ct h1 hs2 e2; have d3:=ct h1 hs2 e3; go_simp; rfl),?_⟩
  simp only[Act.put,nrA,nrB,nrC,Nat.reduceAdd]
  refine⟨fun f w1 A1 m1 k1 hA hN hAm hm0 e hz hd K hK=>by
   simp only[e] at hK ⊢
   go_simp
   refine(RAdd_any m1 _ _ _ _ _ _ w1 hz (by decide) noW_zRat (later (FactU.keeps (RatP.keeps _)) h2 k1 hN) (later (FactU.keeps (RatP.keeps _)) h4 k1 hN) (k) (l) hlb hld (by omega)).mono ?_
   rintro e w' ⟨rfl,hp⟩
   exact hK _ w' hp.1 (hp.ratU (HV.out.2.2.1.below (br.drew.trans k1)) hA hm0 (fun b hb=>HV.out.2.2.1.lt hb)),?_⟩
  intro f w1 k1 hF
  have i0:(RatP (a+c)) (f 5) w1 ((Mo A (w.heap.size+2))):=FactU.done (RatP.keeps _) hF.1.2
  have i1:(RatP (b+d)) (f 11) w1 ((Mo A (w.heap.size+2))):=FactU.done (RatP.keeps _) hF.2
  clear hF
  simp only[Act.put,nrA,nrB,nrC]
  generalize f 5=vi0 at *
  generalize f 11=vi1 at *
  have hbw1:Below W.heap.size W w1:=br.drew.trans k1
  obtain⟨c0,c1,f0,f1⟩:=HV.out.2.2.2 w1 hbw1
  have hbw:=HV.out.2.1.trans (hbw1.mono HV.out.2.1.size)
  have HE:=Lib.hid (And.intro i0 (And.intro i1 hbw))
  obtain⟨m1,rfl⟩:=i0.shape
  obtain⟨m2,rfl⟩:=i1.shape
  clear e0 e1 e2 e3 h1 h2 h3 h4 i0 i1 hbw hbw1 k1
  go_wp2_with fail
  refine bodyPost_ret (v:=.agg #[.pointer (some ⟨m1,0,none⟩),.pointer (some ⟨m2,0,none⟩)]) (by simp[results,Tryz.results164,go_sem,c0,c1]) rfl ?_
  exact put_c HE.out.2.2 HE.out.1 HE.out.2.1 (by omega)
set_option maxRecDepth 100000 in
theorem XSub_any(a b c d:Rat)(v v':Value)(A:Nat→Prop)(w:World)(hv:CP a b v w A)(hv':CP c d v' w A)(hA:Rcv A w)(k l:Nat)(hla:RL a k)(hlb:RL b k)(hlc:RL c l)(hld:RL d l)(hkl:k+l<137438953472) :
  Calls Tryz.prog 201 #[v,v'] w fun e w'=>∃ u,e=.returned u∧Below w.heap.size w w'∧CP (a - c) (b - d) u w' A:=by
 obtain⟨u1,u2,rfl,h1,h2⟩:=hv
 obtain⟨u3,u4,rfl,h3,h4⟩:=hv'
 obtain⟨W,HV,hs1,hs2,e0,e1,e2,e3⟩:=xbox_two w u1 u2 u3 u4 A hA
 have h1:=new_more (RatP.keeps a) (n:=w.heap.size+2) HV.out.2.1 (by omega) h1
 have h2:=new_more (RatP.keeps b) (n:=w.heap.size+2) HV.out.2.1 (by omega) h2
 have h3:=new_more (RatP.keeps c) (n:=w.heap.size+2) HV.out.2.1 (by omega) h3
 have h4:=new_more (RatP.keeps d) (n:=w.heap.size+2) HV.out.2.1 (by omega) h4
 clear hA
 go_enter Tryz.func201,Tryz.ntmps201
 go_wp2_with fail
 rw[←HV.out.1]
 refine wp_region_inv [(.new zR,[]),(.lit,[]),(.lit,[]),(.lit,[]),(.lit,[]),(.on 0 zR,[]),(.new zR,[]),(.lit,[]),(.lit,[]),(.lit,[]),(.lit,[]),(.on 6 zR,[])]
  (pickF [(5,FactU (Mo A (w.heap.size+2)) (RatP (a - c))),(11,FactU (Mo A (w.heap.size+2)) (RatP (b - d)))]) (by kernel_rfl) ?_ ?_ (by simp[noW_zRat]) (by simp) (by kernel_rfl)
 ·exact keeps_pick (by simp only[List.mem_cons,List.not_mem_nil,or_false]; rintro p (rfl|rfl)<;>first|exact FactU.keeps (RatP.keeps _)|exact FactU.keeps (RatB.keeps _ _)|exact FactU.keeps (CP.keeps _ _))
 ·refine⟨fun f w1=>by go_simp,?_⟩
  refine⟨_,fun f w1 h1=>by(have d0:=ct h1 hs1 e0; have d1:=ct h1 hs1 e1; have d2:=ct h1 hs2 e2; have d3:=ct h1 hs2 e3; go_simp; rfl),?_⟩
  refine⟨_,fun f w1 h1=>by(have d0:=ct h1 hs1 e0; have d1:=ct h1 hs1 e1; have d2:=ct h1 hs2 e2; have d3:=ct h1 hs2 e3; go_simp; rfl),?_⟩
  refine⟨_,fun f w1 h1=>by(have d0:=ct h1 hs1 e0; have d1:=ct h1 hs1 e1; have d2:=ct h1 hs2 e2; have d3:=ct h1 hs2 e3; go_simp; rfl),?_⟩
  refine⟨_,fun f w1 h1=>by(have d0:=ct h1 hs1 e0; have d1:=ct h1 hs1 e1; have d2:=ct h1 hs2 e2; have d3:=ct h1 hs2 e3; go_simp; rfl),?_⟩
  simp only[Act.put,nrA,nrB,nrC,Nat.reduceAdd]
  refine⟨fun f w1 A1 m1 k1 hA hN hAm hm0 e hz hd K hK=>by
   simp only[e] at hK ⊢
   go_simp
   refine(RSub_any m1 _ _ _ _ _ _ w1 hz (by decide) noW_zRat (later (FactU.keeps (RatP.keeps _)) h1 k1 hN) (later (FactU.keeps (RatP.keeps _)) h3 k1 hN) (k) (l) hla hlc (by omega)).mono ?_
   rintro e w' ⟨rfl,hp⟩
   exact hK _ w' hp.1 (hp.ratU (HV.out.2.2.1.below (br.drew.trans k1)) hA hm0 (fun b hb=>HV.out.2.2.1.lt hb)),?_⟩
  refine⟨fun f w1=>by go_simp,?_⟩
  refine⟨_,fun f w1 h1=>by(have d0:=ct h1 hs1 e0; have d1:=ct h1 hs1 e1; have d2:=ct h1 hs2 e2; have d3:=ct h1 hs2 e3; go_simp; rfl),?_⟩
  refine⟨_,fun f w1 h1=>by(have d0:=ct h1 hs1 e0; have d1:=ct h1 hs1 e1; have d2:=ct h1 hs2 e2; have d3:=ct h1 hs2 e3; go_simp; rfl),?_⟩
  refine⟨_,fun f w1 h1=>by(have d0:=ct h1 hs1 e0; have d1:=ct h1 hs1 e1; have d2:=ct h1 hs2 e2; have d3:=ct h1 hs2 e3; go_simp; rfl),?_⟩
  refine⟨_,fun f w1 h1=>by(have d0:=ct h1 hs1 e0; have d1:=ct h1 hs1 e1; have d2:=ct h1 hs2 e2; have d3:=ct h1 hs2 e3; go_simp; rfl),?_⟩
  simp only[Act.put,nrA,nrB,nrC,Nat.reduceAdd]
  refine⟨fun f w1 A1 m1 k1 hA hN hAm hm0 e hz hd K hK=>by
   simp only[e] at hK ⊢
   go_simp
   refine(RSub_any m1 _ _ _ _ _ _ w1 hz (by decide) noW_zRat (later (FactU.keeps (RatP.keeps _)) h2 k1 hN) (later (FactU.keeps (RatP.keeps _)) h4 k1 hN) (k) (l) hlb hld (by omega)).mono ?_
   rintro e w' ⟨rfl,hp⟩
   exact hK _ w' hp.1 (hp.ratU (HV.out.2.2.1.below (br.drew.trans k1)) hA hm0 (fun b hb=>HV.out.2.2.1.lt hb)),?_⟩
  intro f w1 k1 hF
  have i0:(RatP (a - c)) (f 5) w1 ((Mo A (w.heap.size+2))):=FactU.done (RatP.keeps _) hF.1.2
  have i1:(RatP (b - d)) (f 11) w1 ((Mo A (w.heap.size+2))):=FactU.done (RatP.keeps _) hF.2
  clear hF
  simp only[Act.put,nrA,nrB,nrC]
  generalize f 5=vi0 at *
  generalize f 11=vi1 at *
  have hbw1:Below W.heap.size W w1:=br.drew.trans k1
  obtain⟨c0,c1,f0,f1⟩:=HV.out.2.2.2 w1 hbw1
  have hbw:=HV.out.2.1.trans (hbw1.mono HV.out.2.1.size)
  have HE:=Lib.hid (And.intro i0 (And.intro i1 hbw))
  obtain⟨m1,rfl⟩:=i0.shape
  obtain⟨m2,rfl⟩:=i1.shape
  clear e0 e1 e2 e3 h1 h2 h3 h4 i0 i1 hbw hbw1 k1
  go_wp2_with fail
  refine bodyPost_ret (v:=.agg #[.pointer (some ⟨m1,0,none⟩),.pointer (some ⟨m2,0,none⟩)]) (by simp[results,Tryz.results201,go_sem,c0,c1]) rfl ?_
  exact put_c HE.out.2.2 HE.out.1 HE.out.2.1 (by omega)
set_option maxRecDepth 100000 in
theorem XScale_any(a b s:Rat)(v vs:Value)(A:Nat→Prop)(w:World)(hv:CP a b v w A)(hs:RatP s vs w A)(hA:Rcv A w)  (k l:Nat) (hla:RL a k) (hlb:RL b k) (hls:RL s l) (hkl:k+l<137438953472) :
  Calls Tryz.prog 204 #[v,vs] w fun e w'=>∃ u,e=.returned u∧Below w.heap.size w w'∧CP (a*s) (b*s) u w' A:=by
 obtain⟨u1,u2,rfl,h1,h2⟩:=hv
 obtain⟨W,HV,hs2,e0,e1⟩:=xbox_one w u1 u2 A hA
 have h1:=new_more (RatP.keeps a) (n:=w.heap.size+1) HV.out.2.1 (by omega) h1
 have h2:=new_more (RatP.keeps b) (n:=w.heap.size+1) HV.out.2.1 (by omega) h2
 have hs:=new_more (RatP.keeps s) (n:=w.heap.size+1) HV.out.2.1 (by omega) hs
 clear hA
 go_enter Tryz.func204,Tryz.ntmps204
 go_wp2_with fail
 rw[←HV.out.1]
 refine wp_region_inv [(.new zR,[]),(.lit,[]),(.lit,[]),(.lit,[]),(.on 0 zR,[]),(.new zR,[]),(.lit,[]),(.lit,[]),(.lit,[]),(.on 5 zR,[])]
  (pickF [(4,FactU (Mo A (w.heap.size+1)) (RatP (a*s))),(9,FactU (Mo A (w.heap.size+1)) (RatP (b*s)))]) (by kernel_rfl) ?_ ?_ (by simp[noW_zRat]) (by simp) (by kernel_rfl)
 ·exact keeps_pick (by simp only[List.mem_cons,List.not_mem_nil,or_false]; rintro p (rfl|rfl)<;>first|exact FactU.keeps (RatP.keeps _)|exact FactU.keeps (RatB.keeps _ _)|exact FactU.keeps (CP.keeps _ _))
 ·refine⟨fun f w1=>by go_simp,?_⟩
  refine⟨_,fun f w1 h1=>by(have d0:=ct h1 hs2 e0; have d1:=ct h1 hs2 e1; go_simp; rfl),?_⟩
  refine⟨_,fun f w1 h1=>by(have d0:=ct h1 hs2 e0; have d1:=ct h1 hs2 e1; go_simp; rfl),?_⟩
  refine⟨_,fun f w1 h1=>by(have d0:=ct h1 hs2 e0; have d1:=ct h1 hs2 e1; go_simp; rfl),?_⟩
  simp only[Act.put,nrA,nrB,nrC,Nat.reduceAdd]
  refine⟨fun f w1 A1 m1 k1 hA hN hAm hm0 e hz hd K hK=>by
   simp only[e] at hK ⊢
   go_simp
   refine(RMul_any m1 _ _ _ _ _ _ w1 hz (by decide) noW_zRat (later (FactU.keeps (RatP.keeps _)) h1 k1 hN) (later (FactU.keeps (RatP.keeps _)) hs k1 hN) (k) (l) hla hls (by omega)).mono ?_
   rintro e w' ⟨rfl,hp⟩
   exact hK _ w' hp.1 (hp.ratU (HV.out.2.2.1.below (br.drew.trans k1)) hA hm0 (fun b hb=>HV.out.2.2.1.lt hb)),?_⟩
  refine⟨fun f w1=>by go_simp,?_⟩
  refine⟨_,fun f w1 h1=>by(have d0:=ct h1 hs2 e0; have d1:=ct h1 hs2 e1; go_simp; rfl),?_⟩
  refine⟨_,fun f w1 h1=>by(have d0:=ct h1 hs2 e0; have d1:=ct h1 hs2 e1; go_simp; rfl),?_⟩
  refine⟨_,fun f w1 h1=>by(have d0:=ct h1 hs2 e0; have d1:=ct h1 hs2 e1; go_simp; rfl),?_⟩
  simp only[Act.put,nrA,nrB,nrC,Nat.reduceAdd]
  refine⟨fun f w1 A1 m1 k1 hA hN hAm hm0 e hz hd K hK=>by
   simp only[e] at hK ⊢
   go_simp
   refine(RMul_any m1 _ _ _ _ _ _ w1 hz (by decide) noW_zRat (later (FactU.keeps (RatP.keeps _)) h2 k1 hN) (later (FactU.keeps (RatP.keeps _)) hs k1 hN) (k) (l) hlb hls (by omega)).mono ?_
   rintro e w' ⟨rfl,hp⟩
   exact hK _ w' hp.1 (hp.ratU (HV.out.2.2.1.below (br.drew.trans k1)) hA hm0 (fun b hb=>HV.out.2.2.1.lt hb)),?_⟩
  intro f w1 k1 hF
  have i0:(RatP (a*s)) (f 4) w1 ((Mo A (w.heap.size+1))):=FactU.done (RatP.keeps _) hF.1.2
  have i1:(RatP (b*s)) (f 9) w1 ((Mo A (w.heap.size+1))):=FactU.done (RatP.keeps _) hF.2
  clear hF
  simp only[Act.put,nrA,nrB,nrC]
  generalize f 4=vi0 at *
  generalize f 9=vi1 at *
  have hbw1:Below W.heap.size W w1:=br.drew.trans k1
  obtain⟨c0,c1,f0,f1⟩:=HV.out.2.2.2 w1 hbw1
  have hbw:=HV.out.2.1.trans (hbw1.mono HV.out.2.1.size)
  have HE:=Lib.hid (And.intro i0 (And.intro i1 hbw))
  obtain⟨m1,rfl⟩:=i0.shape
  obtain⟨m2,rfl⟩:=i1.shape
  clear e0 e1 h1 h2 hs i0 i1 hbw hbw1 k1
  go_wp2_with fail
  refine bodyPost_ret (v:=.agg #[.pointer (some ⟨m1,0,none⟩),.pointer (some ⟨m2,0,none⟩)]) (by simp[results,Tryz.results204,go_sem,c0,c1]) rfl ?_
  exact put_c HE.out.2.2 HE.out.1 HE.out.2.1 (by omega)
set_option maxRecDepth 100000 in
theorem XConj_any(a b:Rat)(v:Value)(A:Nat→Prop)(w:World)(hv:CP a b v w A)(hA:Rcv A w)  (hlb:RL b 137438953472) :
  Calls Tryz.prog 203 #[v] w fun e w'=>∃ u,e=.returned u∧Below w.heap.size w w'∧CP (a) (-b) u w' A:=by
 obtain⟨u1,u2,rfl,h1,h2⟩:=hv
 obtain⟨W,HV,hs2,e0,e1⟩:=xbox_one w u1 u2 A hA
 have h1:=new_more (RatP.keeps a) (n:=w.heap.size+1) HV.out.2.1 (by omega) h1
 have h2:=new_more (RatP.keeps b) (n:=w.heap.size+1) HV.out.2.1 (by omega) h2
 clear hA
 go_enter Tryz.func203,Tryz.ntmps203
 go_wp2_with fail
 rw[←HV.out.1]
 refine wp_region_inv [(.lit,[]),(.lit,[]),(.new zR,[]),(.lit,[]),(.lit,[]),(.on 2 zR,[])]
  (pickF [(5,FactU (Mo A (w.heap.size+1)) (RatP (-b)))]) (by kernel_rfl) ?_ ?_ (by simp[noW_zRat]) (by simp) (by kernel_rfl)
 ·exact keeps_pick (by simp only[List.mem_cons,List.not_mem_nil,or_false]; rintro p (rfl)<;>first|exact FactU.keeps (RatP.keeps _)|exact FactU.keeps (RatB.keeps _ _)|exact FactU.keeps (CP.keeps _ _))
 ·refine⟨_,fun f w1 h1=>by(have d0:=ct h1 hs2 e0; have d1:=ct h1 hs2 e1; go_simp; rfl),?_⟩
  refine⟨_,fun f w1 h1=>by(have d0:=ct h1 hs2 e0; have d1:=ct h1 hs2 e1; go_simp; rfl),?_⟩
  refine⟨fun f w1=>by go_simp,?_⟩
  refine⟨_,fun f w1 h1=>by(have d0:=ct h1 hs2 e0; have d1:=ct h1 hs2 e1; go_simp; rfl),?_⟩
  refine⟨_,fun f w1 h1=>by(have d0:=ct h1 hs2 e0; have d1:=ct h1 hs2 e1; go_simp; rfl),?_⟩
  simp only[Act.put,nrA,nrB,nrC,Nat.reduceAdd]
  refine⟨fun f w1 A1 m1 k1 hA hN hAm hm0 e hz hd K hK=>by
   simp only[e] at hK ⊢
   go_simp
   refine(RNeg_any m1 _ _ _ _ w1 hz (by decide) noW_zRat (later (FactU.keeps (RatP.keeps _)) h2 k1 hN) hlb).mono ?_
   rintro e w' ⟨rfl,hp⟩
   exact hK _ w' hp.1 (hp.ratU (HV.out.2.2.1.below (br.drew.trans k1)) hA hm0 (fun b hb=>HV.out.2.2.1.lt hb)),?_⟩
  intro f w1 k1 hF
  have i0:(RatP (-b)) (f 5) w1 ((Mo A (w.heap.size+1))):=FactU.done (RatP.keeps _) hF.2
  clear hF
  simp only[Act.put,nrA,nrB,nrC]
  generalize f 5=vi0 at *
  have hbw1:Below W.heap.size W w1:=br.drew.trans k1
  have i1:RatP a u1 w1 (Mo A (w.heap.size+1)):=FactU.done (RatP.keeps _) (later (FactU.keeps (RatP.keeps _)) h1 k1 (fun _ h=>h.elim))
  obtain⟨c0,c1,f0,f1⟩:=HV.out.2.2.2 w1 hbw1
  have hbw:=HV.out.2.1.trans (hbw1.mono HV.out.2.1.size)
  have HE:=Lib.hid (And.intro i1 (And.intro i0 hbw))
  obtain⟨m1,rfl⟩:=i1.shape
  obtain⟨m2,rfl⟩:=i0.shape
  clear e0 e1 h1 h2 i1 i0 hbw hbw1 k1
  go_wp2_with fail
  refine bodyPost_ret (v:=.agg #[.pointer (some ⟨m1,0,none⟩),.pointer (some ⟨m2,0,none⟩)]) (by simp[results,Tryz.results203,go_sem,c0,c1]) rfl ?_
  exact put_c HE.out.2.2 HE.out.1 HE.out.2.1 (by omega)
set_option maxRecDepth 100000 in
theorem XNorm_any(a b:Rat)(v:Value)(A:Nat→Prop)(w:World)(hv:CP a b v w A)(hA:Rcv A w)(k:Nat)(hla:RL a k)(hlb:RL b k)(hkl:k+k+(k+k)<137438953472) :
  Calls Tryz.prog 205 #[v] w fun e w'=>∃ u,e=.returned u∧Below w.heap.size w w'∧RatP (a*a+b*b) u w' A:=by
 obtain⟨u1,u2,rfl,h1,h2⟩:=hv
 obtain⟨W,hW⟩:∃ W,W=w.alloc (.cells #[u1,u2] 175):=⟨_,rfl⟩
 obtain⟨e0,e1,_⟩:=new_two w u1 u2 175 br
 have hb:Below w.heap.size w W:=by rw[hW]; exact br.alloc (Nat.le_refl _) _
 have hs2:w.heap.size<W.heap.size:=by rw[hW]; simp
 rw[←hW] at e0 e1
 have HV:=Lib.hid (And.intro hW (And.intro hb (hA.below hb)))
 have h1:=FactU.start (RatP.keeps a) (h1.below hb)
 have h2:=FactU.start (RatP.keeps b) (h2.below hb)
 clear hA hW hb
 go_enter Tryz.func205,Tryz.ntmps205
 go_wp2_with fail
 rw[←HV.out.1]
 refine wp_region_inv [(.new zR,[]),(.lit,[]),(.lit,[]),(.lit,[]),(.lit,[]),(.on 0 zR,[]),(.new zR,[]),(.lit,[]),(.lit,[]),(.lit,[]),(.lit,[]),(.on 6 zR,[])]
  (pickF [(5,FactU A (RatB W.heap.size (a*a))),(11,FactU A (RatP (b*b)))]) (by kernel_rfl) ?_ ?_ (by simp[noW_zRat]) (by simp) (by kernel_rfl)
 ·exact keeps_pick (by simp only[List.mem_cons,List.not_mem_nil,or_false]; rintro p (rfl|rfl)<;>first|exact FactU.keeps (RatP.keeps _)|exact FactU.keeps (RatB.keeps _ _)|exact FactU.keeps (CP.keeps _ _))
 ·refine⟨fun f w1=>by go_simp,?_⟩
  refine⟨_,fun f w1 h1=>by(have d0:=ct h1 hs2 e0; have d1:=ct h1 hs2 e1; go_simp; rfl),?_⟩
  refine⟨_,fun f w1 h1=>by(have d0:=ct h1 hs2 e0; have d1:=ct h1 hs2 e1; go_simp; rfl),?_⟩
  refine⟨_,fun f w1 h1=>by(have d0:=ct h1 hs2 e0; have d1:=ct h1 hs2 e1; go_simp; rfl),?_⟩
  refine⟨_,fun f w1 h1=>by(have d0:=ct h1 hs2 e0; have d1:=ct h1 hs2 e1; go_simp; rfl),?_⟩
  simp only[Act.put,nrA,nrB,nrC,Nat.reduceAdd]
  refine⟨fun f w1 A1 m1 k1 hA hN hAm hm0 e hz hd K hK=>by
   simp only[e] at hK ⊢
   go_simp
   refine(RMul_any m1 _ _ _ _ _ _ w1 hz (by decide) noW_zRat (later (FactU.keeps (RatP.keeps _)) h1 k1 hN) (later (FactU.keeps (RatP.keeps _)) h1 k1 hN) (k) (k) hla hla (by omega)).mono ?_
   rintro e w' ⟨rfl,hp⟩
   exact hK _ w' hp.1 (hp.ratB (HV.out.2.2.below (br.drew.trans k1)) hA hm0 (fun b hb=>HV.out.2.2.lt hb)),?_⟩
  refine⟨fun f w1=>by go_simp,?_⟩
  refine⟨_,fun f w1 h1=>by(have d0:=ct h1 hs2 e0; have d1:=ct h1 hs2 e1; go_simp; rfl),?_⟩
  refine⟨_,fun f w1 h1=>by(have d0:=ct h1 hs2 e0; have d1:=ct h1 hs2 e1; go_simp; rfl),?_⟩
  refine⟨_,fun f w1 h1=>by(have d0:=ct h1 hs2 e0; have d1:=ct h1 hs2 e1; go_simp; rfl),?_⟩
  refine⟨_,fun f w1 h1=>by(have d0:=ct h1 hs2 e0; have d1:=ct h1 hs2 e1; go_simp; rfl),?_⟩
  simp only[Act.put,nrA,nrB,nrC,Nat.reduceAdd]
  refine⟨fun f w1 A1 m1 k1 hA hN hAm hm0 e hz hd K hK=>by
   simp only[e] at hK ⊢
   go_simp
   refine(RMul_any m1 _ _ _ _ _ _ w1 hz (by decide) noW_zRat (later (FactU.keeps (RatP.keeps _)) h2 k1 hN) (later (FactU.keeps (RatP.keeps _)) h2 k1 hN) (k) (k) hlb hlb (by omega)).mono ?_
   rintro e w' ⟨rfl,hp⟩
   exact hK _ w' hp.1 (hp.ratU (HV.out.2.2.below (br.drew.trans k1)) hA hm0 (fun b hb=>HV.out.2.2.lt hb)),?_⟩
  intro f w1 k1 hF
  have i0:(RatB W.heap.size (a*a)) (f 5) w1 (A):=FactU.done (RatB.keeps _ _) hF.1.2
  have i1:(RatP (b*b)) (f 11) w1 (A):=FactU.done (RatP.keeps _) hF.2
  clear hF
  simp only[Act.put,nrA,nrB,nrC]
  generalize f 5=vi0 at *
  generalize f 11=vi1 at *
  have hbw1:Below W.heap.size W w1:=br.drew.trans k1
  obtain⟨m1,C1,rfl,hmb,hna,hm,hC4,hC,hr0⟩:=i0
  obtain⟨m2,rfl⟩:=i1.shape
  have hbw:=HV.out.2.1.trans (hbw1.mono HV.out.2.1.size)
  have hM:=Lib.hid (RAdd_any m1 C1 _ _ _ _ A w1 hm hC4 hC hr0 i1 (k+k) (k+k) (RL_mul hla hla) (RL_mul hlb hlb) hkl)
  have HE:=Lib.hid (And.intro hbw (And.intro hmb (And.intro hna (HV.out.2.2.below hbw1))))
  clear e0 e1 h1 h2 i1 hr0 hm hbw hbw1 k1 hmb hna
  go_wp2_with fail
  refine hM.out.mono ?_
  rintro e w2 ⟨rfl,hp⟩
  have HP:=Lib.hid hp
  clear hp hM
  go_wp2_with fail
  go_ret
  exact⟨_,rfl,HE.out.1.trans (HP.out.1.below (Nat.le_trans (Nat.le_of_lt hs2) HE.out.2.1) HE.out.1.size),(HP.out.ratP HE.out.2.2.2).wider fun b hb=>⟨hb,fun e=>HE.out.2.2.1 (e▸hb)⟩⟩
end Go.Proofs.YtplakbflfckldaaGreat
