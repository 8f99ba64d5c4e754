/- Laws for the walk. -/
import Derived.Test.YtjlhiaafnpompaaGreatYat
set_option linter.unusedVariables false
set_option maxHeartbeats 4000000
namespace Go.Proofs.YtjlhiaafnpompaaGreat
open Go.RowKit Tr
def zG:Value:=.agg #[.bool false,.string ⟨#[]⟩,.bool false,.string ⟨#[]⟩,.bool false,.string ⟨#[]⟩,.bool false,.string ⟨#[]⟩]
def outG(a b:Rat):Value:=if ShortF a∧ShortF b then encG a b else zG
def outGC(a b:Rat):Int:=if ShortF a∧ShortF b then 0 else 4
theorem outF_four(q:Rat):∃ b1 t1 b2 t2,outF q=.agg #[.bool b1,.string t1,.bool b2,.string t2]:=by
 unfold outF
 split
 ·exact⟨_,_,_,_,rfl⟩
 ·exact⟨_,_,_,_,rfl⟩
theorem outC_zero{q:Rat}:outC q=0↔ShortF q:=by unfold outC; split<;>simp[*]
theorem outG_of{a b:Rat}(ha:ShortF a)(hb:ShortF b){b1 b2 b3 b4:Bool}{t1 t2 t3 t4:ByteArray}(e1:outF a=.agg #[.bool b1,.string t1,.bool b2,.string t2])(e2:outF b=.agg #[.bool b3,.string t3,.bool b4,.string t4]):outG a b=.agg #[.bool b1,.string t1,.bool b2,.string t2,.bool b3,.string t3,.bool b4,.string t4]:=by
 unfold outF at e1 e2
 rw[if_pos ha] at e1
 rw[if_pos hb] at e2
 unfold encF at e1 e2
 simp only[Value.agg.injEq,Array.mk.injEq,List.cons.injEq,Value.bool.injEq,Value.string.injEq,and_true] at e1 e2
 unfold outG
 rw[if_pos ⟨ha,hb⟩]
 unfold encG
 rw[e1.1,e1.2.1,e1.2.2.1,e1.2.2.2,e2.1,e2.2.1,e2.2.2.2]
 rw[e1.2.2.1] at e2
 rw[e2.2.2.1]
set_option maxRecDepth 100000 in
theorem XGauss_any(a b:Rat)(v:Value)(A:Nat→Prop)(w:World)(hv:CP a b v w A)(hla:RL a 137438953472)(hlb:RL b 137438953472) :
  Calls Tryz.prog 32 #[v] w fun e w'=>e=.returned (.tuple #[outG a b,.int .i64 (outGC a b)])∧Below w.heap.size w w':=by
 obtain⟨u1,u2,rfl,h1,h2⟩:=hv
 obtain⟨b1,t1,b2,t2,ea⟩:=outF_four a
 obtain⟨b3,t3,b4,t4,eb⟩:=outF_four b
 obtain⟨k1,hk1⟩:∃ k1,k1=outC a:=⟨_,rfl⟩
 obtain⟨k2,hk2⟩:∃ k2,k2=outC b:=⟨_,rfl⟩
 obtain⟨W0,hW0⟩:∃ W0,W0=w.alloc (.cells #[u1,u2] 76):=⟨_,rfl⟩
 have hz0:W0.heap.size=w.heap.size+1:=by rw[hW0]; simp
 obtain⟨W,hW⟩:∃ W,W=W0.alloc (.cells #[.bool false,.string ⟨#[]⟩,.bool false,.string ⟨#[]⟩,.bool false,.string ⟨#[]⟩,.bool false,.string ⟨#[]⟩] 27):=⟨_,rfl⟩
 have hb0:Below w.heap.size w W0:=by rw[hW0]; exact br.alloc (Nat.le_refl _) _
 have hb1:Below W0.heap.size W0 W:=by rw[hW]; exact br.alloc (Nat.le_refl _) _
 have hb:=hb0.trans (hb1.mono hb0.size)
 obtain⟨e0,e1,_⟩:=new_two w u1 u2 76 (w1:=W) (by rw[←hW0]; exact hb1)
 have hlt:w.heap.size<W.heap.size:=by have:=hb1.size; omega
 have H1:=Lib.hid (XFrac_any a u1 A W (h1.below hb) hla)
 have H2:=Lib.hid (fun w' (h:Below W.heap.size W w')=>XFrac_any b u2 A w' ((h2.below hb).below h) hlb)
 rw[ea,←hk1] at H1
 rw[eb,←hk2] at H2
 have HK:=Lib.hid (And.intro (show k1=0↔ShortF a by rw[hk1]; exact outC_zero) (And.intro (show k2=0↔ShortF b by rw[hk2]; exact outC_zero) (And.intro ea eb)))
 have HV:=Lib.hid (And.intro (hW.trans (by rw[hW0])) (And.intro hb (fun w1 (h:Below W.heap.size W w1)=>And.intro (new_eight W0 _ _ _ _ _ _ _ _ _ (w1:=w1) (by rw[←hW]; exact h)) (frozen_eight W0 _ _ _ _ _ _ _ _ _ (w1:=w1) (by rw[←hW]; exact h)))))
 rw[hz0] at HV
 clear hk1 hk2 ea eb hW hW0 hz0 hb hb0 hb1 h1 h2
 go_enter Tryz.func32,Tryz.ntmps32
 go_wp2_with fail
 rw[←HV.out.1]
 refine H1.out.mono ?_
 rintro e w1 ⟨rfl,hb1⟩
 have e0:=(hb1.cell (p:=⟨w.heap.size,0,none⟩) hlt).trans e0
 have e1:=(hb1.cell (p:=⟨w.heap.size,1,none⟩) hlt).trans e1
 have hlt1:w.heap.size<w1.heap.size:=Nat.lt_of_lt_of_le hlt hb1.size
 have HB1:=Lib.hid hb1
 clear hb1
 go_wp2_with fail
 have hal:=(Below.refl w1.heap.size w1).alloc (Nat.le_refl _) (.cells #[.bool b1,.string t1,.bool b2,.string t2] 25)
 refine(H2.out _ (HB1.out.trans (hal.mono HB1.out.size))).mono ?_
 rintro e w3 ⟨rfl,hb3⟩
 obtain⟨g0,g1,g2,g3,_⟩:=new_four w1 _ _ _ _ _ hb3
 have hb13:=hal.trans (hb3.mono hal.size)
 have hbW3:=HB1.out.trans (hb13.mono HB1.out.size)
 obtain⟨⟨c0,c1,c2,c3,c4,c5,c6,c7⟩,f0,f1,f2,f3,f4,f5,f6,f7⟩:=HV.out.2.2 w3 hbW3
 have hne:w1.heap.size<w3.heap.size:=by have:=hb3.size; simp at this; omega
 have hn2:w.heap.size+1<w3.heap.size:=by omega
 have hF:=HV.out.2.1.trans (hbW3.mono HV.out.2.1.size)
 have HF:=Lib.hid hF
 have HO:=Lib.hid (fun(h:¬(ShortF a∧ShortF b))=>show zG=outG a b∧(4:Int)=outGC a b by unfold outG outGC; rw[if_neg h,if_neg h]; exact⟨rfl,rfl⟩)
 clear e0 e1 hb3 hal hb13 hbW3 hF H1 H2
 by_cases x1:k1=0
 ·by_cases x2:k2=0
  ·have HG:=Lib.hid (And.intro (outG_of (HK.out.1.1 x1) (HK.out.2.1.1 x2) HK.out.2.2.1 HK.out.2.2.2) (show outGC a b=0 by unfold outGC; rw[if_pos ⟨HK.out.1.1 x1,HK.out.2.1.1 x2⟩]))
   subst x1 x2
   go_wp2_with fail
   refine bodyPost_ret (v:=.tuple #[.agg #[.bool b1,.string t1,.bool b2,.string t2,.bool b3,.string t3,.bool b4,.string t4],.int .i64 0]) (by simp[results,Tryz.results32,go_sem,c0,c1,c2,c3,c4,c5,c6,c7,hn2,cell_alloc_lt]) rfl ⟨by rw[HG.out.1,HG.out.2],?_⟩
   exact Below.alloc ((((((((HF.out.setCell (p:=⟨w.heap.size+1,0,none⟩) (Nat.le_succ _) _).setCell (p:=⟨w.heap.size+1,1,none⟩) (Nat.le_succ _) _).setCell (p:=⟨w.heap.size+1,2,none⟩) (Nat.le_succ _) _).setCell (p:=⟨w.heap.size+1,3,none⟩) (Nat.le_succ _) _).setCell (p:=⟨w.heap.size+1,4,none⟩) (Nat.le_succ _) _).setCell (p:=⟨w.heap.size+1,5,none⟩) (Nat.le_succ _) _).setCell (p:=⟨w.heap.size+1,6,none⟩) (Nat.le_succ _) _).setCell (p:=⟨w.heap.size+1,7,none⟩) (Nat.le_succ _) _) (by simp only[setCell_size]; exact(HF.out.size)) _
  ·have hx2:(k2 != 0)=true:=by simpa using x2
   have HN:=Lib.hid (HO.out (fun h=>x2 (HK.out.2.1.2 h.2)))
   subst x1
   go_wp2_with fail
   refine bodyPost_ret (v:=.tuple #[zG,.int .i64 4]) (by unfold zG; simp[results,Tryz.results32,go_sem,c0,c1,c2,c3,c4,c5,c6,c7,hn2,cell_alloc_lt]) rfl ⟨by rw[HN.out.1,HN.out.2],?_⟩
   exact Below.alloc ((((((((HF.out.setCell (p:=⟨w.heap.size+1,0,none⟩) (Nat.le_succ _) _).setCell (p:=⟨w.heap.size+1,1,none⟩) (Nat.le_succ _) _).setCell (p:=⟨w.heap.size+1,2,none⟩) (Nat.le_succ _) _).setCell (p:=⟨w.heap.size+1,3,none⟩) (Nat.le_succ _) _).setCell (p:=⟨w.heap.size+1,4,none⟩) (Nat.le_succ _) _).setCell (p:=⟨w.heap.size+1,5,none⟩) (Nat.le_succ _) _).setCell (p:=⟨w.heap.size+1,6,none⟩) (Nat.le_succ _) _).setCell (p:=⟨w.heap.size+1,7,none⟩) (Nat.le_succ _) _) (by simp only[setCell_size]; exact(HF.out.size)) _
 ·have hx1:(k1 != 0)=true:=by simpa using x1
  have HN:=Lib.hid (HO.out (fun h=>x1 (HK.out.1.2 h.1)))
  go_wp2_with fail
  refine bodyPost_ret (v:=.tuple #[zG,.int .i64 4]) (by unfold zG; simp[results,Tryz.results32,go_sem,c0,c1,c2,c3,c4,c5,c6,c7,hn2,cell_alloc_lt]) rfl ⟨by rw[HN.out.1,HN.out.2],?_⟩
  exact Below.alloc ((((((((HF.out.setCell (p:=⟨w.heap.size+1,0,none⟩) (Nat.le_succ _) _).setCell (p:=⟨w.heap.size+1,1,none⟩) (Nat.le_succ _) _).setCell (p:=⟨w.heap.size+1,2,none⟩) (Nat.le_succ _) _).setCell (p:=⟨w.heap.size+1,3,none⟩) (Nat.le_succ _) _).setCell (p:=⟨w.heap.size+1,4,none⟩) (Nat.le_succ _) _).setCell (p:=⟨w.heap.size+1,5,none⟩) (Nat.le_succ _) _).setCell (p:=⟨w.heap.size+1,6,none⟩) (Nat.le_succ _) _).setCell (p:=⟨w.heap.size+1,7,none⟩) (Nat.le_succ _) _) (by simp only[setCell_size]; exact(HF.out.size)) _
end Go.Proofs.YtjlhiaafnpompaaGreat
namespace Go.Proofs.YtjlhiaafnpompaaGreat
open Go.RowKit Tr
def PP(a b c d:Rat):Fact:=fun v w A=>∃ u1 u2 u3 u4,v=.agg #[u1,u2,u3,u4]∧RatP a u1 w A∧RatP b u2 w A∧RatP c u3 w A∧RatP d u4 w A
theorem PP.keeps(a b c d:Rat):(PP a b c d).Keeps:=fun v w w' A A' hs hk ⟨u1,u2,u3,u4,h0,h1,h2,h3,h4⟩=>⟨u1,u2,u3,u4,h0,RatP.keeps a _ _ _ _ _ hs hk h1,RatP.keeps b _ _ _ _ _ hs hk h2,RatP.keeps c _ _ _ _ _ hs hk h3,RatP.keeps d _ _ _ _ _ hs hk h4⟩
theorem put_p{a b c d:Rat}{v1 v2 v3 v4:Value}{w w1:World}{A:Nat→Prop}{n:Nat}(hb:Below w.heap.size w w1)(h1:RatP a v1 w1 (Mo A n))(h2:RatP b v2 w1 (Mo A n))(h3:RatP c v3 w1 (Mo A n))(h4:RatP d v4 w1 (Mo A n))(hn:w.heap.size≤n) :
  ∃ u,Ending.returned (.agg #[v1,v2,v3,v4])=.returned u∧Below w.heap.size w ((((w1.setCell ⟨n,0,none⟩ v1).setCell ⟨n,1,none⟩ v2).setCell ⟨n,2,none⟩ v3).setCell ⟨n,3,none⟩ v4)∧PP a b c d u ((((w1.setCell ⟨n,0,none⟩ v1).setCell ⟨n,1,none⟩ v2).setCell ⟨n,2,none⟩ v3).setCell ⟨n,3,none⟩ v4) A:=by
 refine⟨_,rfl,(((hb.setCell (p:=⟨n,0,none⟩) hn _).setCell (p:=⟨n,1,none⟩) hn _).setCell (p:=⟨n,2,none⟩) hn _).setCell (p:=⟨n,3,none⟩) hn _,v1,v2,v3,v4,rfl,?_,?_,?_,?_⟩
 ·exact more_less _ (RatP.keeps a) (keep_set _ (RatP.keeps a) (keep_set _ (RatP.keeps a) (keep_set _ (RatP.keeps a) (keep_set _ (RatP.keeps a) h1))))
 ·exact more_less _ (RatP.keeps b) (keep_set _ (RatP.keeps b) (keep_set _ (RatP.keeps b) (keep_set _ (RatP.keeps b) (keep_set _ (RatP.keeps b) h2))))
 ·exact more_less _ (RatP.keeps c) (keep_set _ (RatP.keeps c) (keep_set _ (RatP.keeps c) (keep_set _ (RatP.keeps c) (keep_set _ (RatP.keeps c) h3))))
 ·exact more_less _ (RatP.keeps d) (keep_set _ (RatP.keeps d) (keep_set _ (RatP.keeps d) (keep_set _ (RatP.keeps d) (keep_set _ (RatP.keeps d) h4))))
theorem noW_p(T:TypeId):NoW (.cells #[.pointer none,.pointer none,.pointer none,.pointer none] T (0,0)):=by
 intro cs T fr e i k x
 cases e
 rcases i with _|_|_|_|i<;>simp
set_option maxRecDepth 100000 in
theorem XPoint_any(inf n1 n2 n3 n4:Bool)(s1 s2 s3 s4:ByteArray)(hd1:inf=false→numS s2≠0)(hd2:inf=false→numS s4≠0)(l1:s1.size<274877906944)(l2:s2.size<274877906944)(l3:s3.size<274877906944)(l4:s4.size<274877906944)(A:Nat→Prop)(w:World)(hA:Rcv A w)
  (a b c:Rat) (ha:a=if inf then 1 else Rat.divInt (sgn n1 (numS s1)) (sgn n2 (numS s2))) (hb:b=if inf then 0 else Rat.divInt (sgn n3 (numS s3)) (sgn n4 (numS s4))) (hc:c=if inf then 0 else 1) :
  Calls Tryz.prog 56 #[.agg #[.bool inf,.bool n1,.string s1,.bool n2,.string s2,.bool n3,.string s3,.bool n4,.string s4]] w fun e w'=>∃ u,e=.returned u∧Below w.heap.size w w'∧PP a b c 0 u w' A:=by
 obtain⟨W0,hW0⟩:∃ W0,W0=w.alloc (.cells #[.bool inf,.bool n1,.string s1,.bool n2,.string s2,.bool n3,.string s3,.bool n4,.string s4] 51):=⟨_,rfl⟩
 have hz0:W0.heap.size=w.heap.size+1:=by rw[hW0]; simp
 obtain⟨W,hW⟩:∃ W,W=W0.alloc (.cells #[.pointer none,.pointer none,.pointer none,.pointer none] 94):=⟨_,rfl⟩
 have hb0:Below w.heap.size w W0:=by rw[hW0]; exact br.alloc (Nat.le_refl _) _
 have hb1:Below W0.heap.size W0 W:=by rw[hW]; exact br.alloc (Nat.le_refl _) _
 have hbW:=hb0.trans (hb1.mono hb0.size)
 have hn:=heap_alloc_new W0 (.cells #[.pointer none,.pointer none,.pointer none,.pointer none] 94 (0,0))
 have hR:Rcv (Mo A (w.heap.size+1)) W:=fun b h=>h.elim (fun h=>(hA.below hbW) b h) (fun h=>by subst h; rw[hz0,←hW] at hn; exact⟨_,hn,noW_p _⟩)
 have hcell:∀ i,W.cell? ⟨w.heap.size,i,none⟩=W0.cell? ⟨w.heap.size,i,none⟩:=fun i=>hb1.cell (p:=⟨w.heap.size,i,none⟩) (by show w.heap.size<_; omega)
 have e0:W.cell? ⟨w.heap.size,0,none⟩=some (.bool inf):=(hcell 0).trans (by rw[hW0]; simp[go_sem])
 have e1:W.cell? ⟨w.heap.size,1,none⟩=some (.bool n1):=(hcell 1).trans (by rw[hW0]; simp[go_sem])
 have e2:W.cell? ⟨w.heap.size,2,none⟩=some (.string s1):=(hcell 2).trans (by rw[hW0]; simp[go_sem])
 have e3:W.cell? ⟨w.heap.size,3,none⟩=some (.bool n2):=(hcell 3).trans (by rw[hW0]; simp[go_sem])
 have e4:W.cell? ⟨w.heap.size,4,none⟩=some (.string s2):=(hcell 4).trans (by rw[hW0]; simp[go_sem])
 have e5:W.cell? ⟨w.heap.size,5,none⟩=some (.bool n3):=(hcell 5).trans (by rw[hW0]; simp[go_sem])
 have e6:W.cell? ⟨w.heap.size,6,none⟩=some (.string s3):=(hcell 6).trans (by rw[hW0]; simp[go_sem])
 have e7:W.cell? ⟨w.heap.size,7,none⟩=some (.bool n4):=(hcell 7).trans (by rw[hW0]; simp[go_sem])
 have e8:W.cell? ⟨w.heap.size,8,none⟩=some (.string s4):=(hcell 8).trans (by rw[hW0]; simp[go_sem])
 have HV:=Lib.hid (And.intro (hW.trans (by rw[hW0])) (And.intro hbW (And.intro hR (fun w1 (h:Below W.heap.size W w1)=>new_four W0 (.pointer none) (.pointer none) (.pointer none) (.pointer none) 94 (w1:=w1) (by rw[←hW]; exact h)))))
 rw[hz0] at HV
 clear hcell hn hbW hb0 hb1 hR hW hW0 hA hz0
 cases inf
 ·have H1:=Lib.hid (XOf_any n1 n2 n3 n4 s1 s2 s3 s4 (hd1 rfl) (hd2 rfl) l1 l2 l3 l4 (Mo A (w.heap.size+1)) W HV.out.2.2.1)
  simp only[Bool.false_eq_true,if_false] at ha hb hc
  rw[←ha,←hb] at H1
  subst hc
  clear ha hb hd1 hd2
  go_enter Tryz.func56,Tryz.ntmps56
  go_wp2_with fail
  rw[←HV.out.1]
  go_wp2_with fail
  refine H1.out.mono ?_
  rintro e w1 ⟨v1,rfl,hb1,⟨y1,y2,rfl,j1,j2⟩⟩
  have H2:=Lib.hid (XInt_any 1 0 (by decide) (by decide) (by decide) (by decide) (Mo A (w.heap.size+1)) w1 (HV.out.2.2.1.below hb1))
  have HJ:=Lib.hid (And.intro j1 (And.intro j2 hb1))
  clear hb1 j1 j2 e0 e1 e2 e3 e4 e5 e6 e7 e8
  go_wp2_with fail
  refine H2.out.mono ?_
  rintro e w2 ⟨v2,rfl,hb2,⟨y3,y4,rfl,j3,j4⟩⟩
  have hbw:=HJ.out.2.2.trans (hb2.mono HJ.out.2.2.size)
  obtain⟨c0,c1,c2,c3,f0,f1,f2,f3⟩:=HV.out.2.2.2 w2 hbw
  have j1:=HJ.out.1.below hb2
  have j2:=HJ.out.2.1.below hb2
  have HE:=Lib.hid (And.intro j1 (And.intro j2 (And.intro j3 (And.intro j4 (HV.out.2.1.trans (hbw.mono HV.out.2.1.size))))))
  obtain⟨m1,rfl⟩:=j1.shape
  obtain⟨m2,rfl⟩:=j2.shape
  obtain⟨m3,rfl⟩:=j3.shape
  obtain⟨m4,rfl⟩:=j4.shape
  clear j1 j2 j3 j4 hbw hb2 H1 H2
  go_wp2_with fail
  refine bodyPost_ret (v:=.agg #[.pointer (some ⟨m1,0,none⟩),.pointer (some ⟨m2,0,none⟩),.pointer (some ⟨m3,0,none⟩),.pointer (some ⟨m4,0,none⟩)]) (by simp[results,Tryz.results56,go_sem,c0,c1,c2,c3]) rfl ?_
  exact put_p HE.out.2.2.2.2 HE.out.1 HE.out.2.1 HE.out.2.2.1 HE.out.2.2.2.1 (by omega)
 ·have H1:=Lib.hid (XInt_any 1 0 (by decide) (by decide) (by decide) (by decide) (Mo A (w.heap.size+1)) W HV.out.2.2.1)
  simp only[if_true] at ha hb hc
  subst ha hb hc
  clear hd1 hd2
  go_enter Tryz.func56,Tryz.ntmps56
  go_wp2_with fail
  rw[←HV.out.1]
  go_wp2_with fail
  refine H1.out.mono ?_
  rintro e w1 ⟨v1,rfl,hb1,⟨y1,y2,rfl,j1,j2⟩⟩
  have H2:=Lib.hid (XInt_any 0 0 (by decide) (by decide) (by decide) (by decide) (Mo A (w.heap.size+1)) w1 (HV.out.2.2.1.below hb1))
  have HJ:=Lib.hid (And.intro j1 (And.intro j2 hb1))
  clear hb1 j1 j2 e0 e1 e2 e3 e4 e5 e6 e7 e8
  go_wp2_with fail
  refine H2.out.mono ?_
  rintro e w2 ⟨v2,rfl,hb2,⟨y3,y4,rfl,j3,j4⟩⟩
  have hbw:=HJ.out.2.2.trans (hb2.mono HJ.out.2.2.size)
  obtain⟨c0,c1,c2,c3,f0,f1,f2,f3⟩:=HV.out.2.2.2 w2 hbw
  have j1:=HJ.out.1.below hb2
  have j2:=HJ.out.2.1.below hb2
  have HE:=Lib.hid (And.intro j1 (And.intro j2 (And.intro j3 (And.intro j4 (HV.out.2.1.trans (hbw.mono HV.out.2.1.size))))))
  obtain⟨m1,rfl⟩:=j1.shape
  obtain⟨m2,rfl⟩:=j2.shape
  obtain⟨m3,rfl⟩:=j3.shape
  obtain⟨m4,rfl⟩:=j4.shape
  clear j1 j2 j3 j4 hbw hb2 H1 H2
  go_wp2_with fail
  refine bodyPost_ret (v:=.agg #[.pointer (some ⟨m1,0,none⟩),.pointer (some ⟨m2,0,none⟩),.pointer (some ⟨m3,0,none⟩),.pointer (some ⟨m4,0,none⟩)]) (by simp[results,Tryz.results56,go_sem,c0,c1,c2,c3]) rfl ?_
  exact put_p HE.out.2.2.2.2 HE.out.1 HE.out.2.1 HE.out.2.2.1 HE.out.2.2.2.1 (by omega)
end Go.Proofs.YtjlhiaafnpompaaGreat
namespace Go.Proofs.YtjlhiaafnpompaaGreat
open Go.RowKit Tr
structure QC where
 re:Rat
 im:Rat
 deriving DecidableEq
namespace QC
instance:Mul QC:=⟨fun x y=>⟨x.re*y.re - x.im*y.im,x.re*y.im+x.im*y.re⟩⟩
instance:Add QC:=⟨fun x y=>⟨x.re+y.re,x.im+y.im⟩⟩
instance:Sub QC:=⟨fun x y=>⟨x.re - y.re,x.im - y.im⟩⟩
end QC
def ZL(z:QC)(k:Nat):Prop:=RL z.re k∧RL z.im k
theorem ZL.mono{z:QC}{k l:Nat}(h:ZL z k)(hl:k≤l):ZL z l:=⟨h.1.mono hl,h.2.mono hl⟩
theorem ZL_mul{x y:QC}{k l:Nat}(hx:ZL x k)(hy:ZL y l):ZL (x*y) (k+l+(k+l)+1):=⟨RL_sub (RL_mul hx.1 hy.1) (RL_mul hx.2 hy.2),RL_add (RL_mul hx.1 hy.2) (RL_mul hx.2 hy.1)⟩
theorem ZL_add{x y:QC}{k l:Nat}(hx:ZL x k)(hy:ZL y l):ZL (x+y) (k+l+1):=⟨RL_add hx.1 hy.1,RL_add hx.2 hy.2⟩
theorem ZL_sub{x y:QC}{k l:Nat}(hx:ZL x k)(hy:ZL y l):ZL (x - y) (k+l+1):=⟨RL_sub hx.1 hy.1,RL_sub hx.2 hy.2⟩
def CQ(z:QC):Fact:=CP z.re z.im
theorem CQ.keeps(z:QC):(CQ z).Keeps:=CP.keeps _ _
def PQ(x y:QC):Fact:=PP x.re x.im y.re y.im
theorem PQ.keeps(x y:QC):(PQ x y).Keeps:=PP.keeps _ _ _ _
theorem QMul_any(x y:QC)(v v':Value)(A:Nat→Prop)(w:World)(hv:CQ x v w A)(hv':CQ y v' w A)(hA:Rcv A w)(k l:Nat)(hx:ZL x k)(hy:ZL y l)(hkl:k+l+(k+l)<137438953472) :
  Calls Tryz.prog 69 #[v,v'] w fun e w'=>∃ u,e=.returned u∧Below w.heap.size w w'∧CQ (x*y) u w' A:=XMul_any _ _ _ _ v v' A w hv hv' hA k l hx.1 hx.2 hy.1 hy.2 hkl
theorem QAdd_any(x y:QC)(v v':Value)(A:Nat→Prop)(w:World)(hv:CQ x v w A)(hv':CQ y v' w A)(hA:Rcv A w)(k l:Nat)(hx:ZL x k)(hy:ZL y l)(hkl:k+l<137438953472) :
  Calls Tryz.prog 68 #[v,v'] w fun e w'=>∃ u,e=.returned u∧Below w.heap.size w w'∧CQ (x+y) u w' A:=XAdd_any _ _ _ _ v v' A w hv hv' hA k l hx.1 hx.2 hy.1 hy.2 hkl
theorem QSub_any(x y:QC)(v v':Value)(A:Nat→Prop)(w:World)(hv:CQ x v w A)(hv':CQ y v' w A)(hA:Rcv A w)(k l:Nat)(hx:ZL x k)(hy:ZL y l)(hkl:k+l<137438953472) :
  Calls Tryz.prog 45 #[v,v'] w fun e w'=>∃ u,e=.returned u∧Below w.heap.size w w'∧CQ (x - y) u w' A:=XSub_any _ _ _ _ v v' A w hv hv' hA k l hx.1 hx.2 hy.1 hy.2 hkl
end Go.Proofs.YtjlhiaafnpompaaGreat
namespace Go.Proofs.YtjlhiaafnpompaaGreat
open Go.RowKit Tr
set_option maxRecDepth 100000 in
theorem Infinity_any(w:World):Calls Tryz.prog 80 #[] w fun e w'=>e=.returned (.agg #[.bool true,.bool false,.string ⟨#[]⟩,.bool false,.string ⟨#[]⟩,.bool false,.string ⟨#[]⟩,.bool false,.string ⟨#[]⟩])∧Below w.heap.size w w':=by
 have HB:=Lib.hid (show Below w.heap.size w (w.alloc (.cells #[.bool true,.bool false,.string ⟨#[]⟩,.bool false,.string ⟨#[]⟩,.bool false,.string ⟨#[]⟩,.bool false,.string ⟨#[]⟩] 51)) from br.alloc (Nat.le_refl _) _)
 go_enter Tryz.func80,Tryz.ntmps80
 go_wp2_with fail
 refine bodyPost_ret (v:=.agg #[.bool true,.bool false,.string ⟨#[]⟩,.bool false,.string ⟨#[]⟩,.bool false,.string ⟨#[]⟩,.bool false,.string ⟨#[]⟩]) (by simp[results,Tryz.results80,go_sem]) rfl ⟨rfl,?_⟩
 exact HB.out
end Go.Proofs.YtjlhiaafnpompaaGreat
namespace Go.Proofs.YtjlhiaafnpompaaGreat
open Go.RowKit Tr
theorem sq_nonneg(a:Rat):0≤a*a:=by
 rcases Rat.nonneg_total a with h|h
 ·exact Rat.mul_nonneg h h
 ·have:=Rat.mul_nonneg h h
  rwa[Rat.neg_mul,Rat.mul_neg,Rat.neg_neg] at this
theorem sq_zero{a b:Rat}(h:a*a+b*b=0):a=0:=by
 have h1:-(a*a)=b*b:=by
  have:-(a*a)+(a*a+b*b)=-(a*a)+0:=by rw[h]
  rw[←Rat.add_assoc,Rat.neg_add_cancel,Rat.zero_add,Rat.add_zero] at this
  exact this.symm
 have h2:=Rat.nonneg_antisymm (sq_nonneg a) (by rw[h1]; exact sq_nonneg b)
 rcases Rat.mul_eq_zero.1 h2 with h|h<;>exact h
theorem norm_zero{a b:Rat}:a*a+b*b=0↔a=0∧b=0:=by
 constructor
 ·intro h; exact⟨sq_zero h,sq_zero (by rw[Rat.add_comm]; exact h)⟩
 ·rintro⟨rfl,rfl⟩; decide +kernel
instance:Div QC:=⟨fun x y=>⟨(x.re*y.re - x.im*(-y.im))*(y.re*y.re+y.im*y.im)⁻¹,(x.re*(-y.im)+x.im*y.re)*(y.re*y.re+y.im*y.im)⁻¹⟩⟩
theorem ZL_div{x y:QC}{k l:Nat}(h0:y.re*y.re+y.im*y.im≠0)(hx:ZL x k)(hy:ZL y l):ZL (x / y) (k+l+(k+l)+1+(l+l+(l+l)+1)):=by
 have li:RL (y.re*y.re+y.im*y.im)⁻¹ (l+l+(l+l)+1):=RL_inv h0 (RL_add (RL_mul hy.1 hy.1) (RL_mul hy.2 hy.2))
 exact⟨RL_mul (RL_sub (RL_mul hx.1 hy.1) (RL_mul hx.2 (RL_neg hy.2))) li,RL_mul (RL_add (RL_mul hx.1 (RL_neg hy.2)) (RL_mul hx.2 hy.1)) li⟩
def infP:Value:=.agg #[.bool true,.bool false,.string ⟨#[]⟩,.bool false,.string ⟨#[]⟩,.bool false,.string ⟨#[]⟩,.bool false,.string ⟨#[]⟩]
def zP:Value:=.agg #[.bool false,.bool false,.string ⟨#[]⟩,.bool false,.string ⟨#[]⟩,.bool false,.string ⟨#[]⟩,.bool false,.string ⟨#[]⟩]
def encPt(z:QC):Value:=.agg #[.bool false,.bool (decide (z.re.num<0)),.string (strN z.re.num.natAbs),.bool false,.string (strN z.re.den),.bool (decide (z.im.num<0)),.string (strN z.im.num.natAbs),.bool false,.string (strN z.im.den)]
def outP(x y:QC):Value:=if y=⟨0,0⟩ then infP else if ShortF (x / y).re∧ShortF (x / y).im then encPt (x / y) else zP
def outPC(x y:QC):Int:=if y=⟨0,0⟩ then 0 else if ShortF (x / y).re∧ShortF (x / y).im then 0 else 4
theorem new_nine(w:World)(x0 x1 x2 x3 x4 x5 x6 x7 x8:Value)(T:TypeId){w1:World}(h:Below (w.alloc (.cells #[x0,x1,x2,x3,x4,x5,x6,x7,x8] T)).heap.size (w.alloc (.cells #[x0,x1,x2,x3,x4,x5,x6,x7,x8] T)) w1) :
  (w1.cell? ⟨w.heap.size,0,none⟩=some x0∧w1.cell? ⟨w.heap.size,1,none⟩=some x1∧w1.cell? ⟨w.heap.size,2,none⟩=some x2∧w1.cell? ⟨w.heap.size,3,none⟩=some x3∧w1.cell? ⟨w.heap.size,4,none⟩=some x4∧w1.cell? ⟨w.heap.size,5,none⟩=some x5∧w1.cell? ⟨w.heap.size,6,none⟩=some x6∧w1.cell? ⟨w.heap.size,7,none⟩=some x7∧w1.cell? ⟨w.heap.size,8,none⟩=some x8) ∧
  w1.frozen? ⟨w.heap.size,0,none⟩=false∧w1.frozen? ⟨w.heap.size,1,none⟩=false∧w1.frozen? ⟨w.heap.size,2,none⟩=false∧w1.frozen? ⟨w.heap.size,3,none⟩=false∧w1.frozen? ⟨w.heap.size,4,none⟩=false∧w1.frozen? ⟨w.heap.size,5,none⟩=false∧w1.frozen? ⟨w.heap.size,6,none⟩=false∧w1.frozen? ⟨w.heap.size,7,none⟩=false∧w1.frozen? ⟨w.heap.size,8,none⟩=false:=by
 have e:=(h.block w.heap.size (by simp)).trans (heap_alloc_new w _)
 simp[World.cell?,World.frozen?,e]
theorem outG_eight(a b:Rat):∃ b1 t1 b2 t2 b3 t3 b4 t4,outG a b=.agg #[.bool b1,.string t1,.bool b2,.string t2,.bool b3,.string t3,.bool b4,.string t4]:=by
 unfold outG
 split
 ·exact⟨_,_,_,_,_,_,_,_,rfl⟩
 ·exact⟨_,_,_,_,_,_,_,_,rfl⟩
theorem outP_short{x y:QC}(h0:y≠⟨0,0⟩)(hc:outGC (x / y).re (x / y).im=0){b1 b2 b3 b4:Bool}{t1 t2 t3 t4:ByteArray}(e:outG (x / y).re (x / y).im=.agg #[.bool b1,.string t1,.bool b2,.string t2,.bool b3,.string t3,.bool b4,.string t4]) :
  outP x y=.agg #[.bool false,.bool b1,.string t1,.bool b2,.string t2,.bool b3,.string t3,.bool b4,.string t4]∧outPC x y=0:=by
 have hs:ShortF (x / y).re∧ShortF (x / y).im:=by
  unfold outGC at hc
  split at hc
  ·assumption
  ·cases hc
 unfold outP outPC
 rw[if_neg h0,if_neg h0,if_pos hs,if_pos hs]
 refine⟨?_,rfl⟩
 unfold outG encG at e
 rw[if_pos hs] at e
 unfold encPt
 simp only[Value.agg.injEq,Array.mk.injEq,List.cons.injEq,Value.bool.injEq,Value.string.injEq,and_true,true_and] at e ⊢
 exact e
theorem outP_long{x y:QC}(h0:y≠⟨0,0⟩)(hc:outGC (x / y).re (x / y).im≠0):outP x y=zP∧outPC x y=4∧outGC (x / y).re (x / y).im=4:=by
 have hs:¬(ShortF (x / y).re∧ShortF (x / y).im):=fun h=>hc (by unfold outGC; rw[if_pos h])
 unfold outP outPC outGC
 rw[if_neg h0,if_neg h0,if_neg hs,if_neg hs]
 exact⟨rfl,rfl,rfl⟩
set_option maxRecDepth 100000 in
theorem PPoint_any(x y:QC)(v:Value)(A:Nat→Prop)(w:World)(hv:PQ x y v w A)(k l:Nat)(hx:ZL x k)(hy:ZL y l)(hkl:(k+l+(k+l)+1)+(l+l+(l+l)+1)<137438953472) :
  Calls Tryz.prog 42 #[v] w fun e w'=>e=.returned (.tuple #[outP x y,.int .i64 (outPC x y)])∧Below w.heap.size w w':=by
 have hv:=Fact.Keeps.noA (PQ.keeps _ _) hv
 obtain⟨u1,u2,u3,u4,rfl,g1,g2,g3,g4⟩:=id hv
 obtain⟨W0,hW0⟩:∃ W0,W0=w.alloc (.cells #[u1,u2,u3,u4] 94):=⟨_,rfl⟩
 have hz0:W0.heap.size=w.heap.size+1:=by rw[hW0]; simp
 obtain⟨W,hW⟩:∃ W,W=W0.alloc (.cells #[.bool false,.bool false,.string ⟨#[]⟩,.bool false,.string ⟨#[]⟩,.bool false,.string ⟨#[]⟩,.bool false,.string ⟨#[]⟩] 51):=⟨_,rfl⟩
 have hb0:Below w.heap.size w W0:=by rw[hW0]; exact br.alloc (Nat.le_refl _) _
 have hb1:Below W0.heap.size W0 W:=by rw[hW]; exact br.alloc (Nat.le_refl _) _
 have hb:=hb0.trans (hb1.mono hb0.size)
 have hlt:w.heap.size<W.heap.size:=by have:=hb1.size; omega
 have hcs:=fun w1 (h:Below W.heap.size W w1)=>new_four w u1 u2 u3 u4 94 (w1:=w1) (by rw[←hW0]; exact hb1.trans (h.mono hb1.size))
 have px:=Fact.Keeps.below (CQ.keeps x) hb (show(CQ x) (.agg #[u1,u2]) w NoA from⟨_,_,rfl,g1,g2⟩)
 have py:=Fact.Keeps.below (CQ.keeps y) hb (show(CQ y) (.agg #[u3,u4]) w NoA from⟨_,_,rfl,g3,g4⟩)
 obtain⟨rz,hrz⟩:∃ rz,rz=decide (y.re=0∧y.im=0):=⟨_,rfl⟩
 have HZ:=Lib.hid (XZero_any y.re y.im (.agg #[u3,u4]) NoA W py rz (by rw[hrz]; simp))
 have HV:=Lib.hid (And.intro (hW.trans (by rw[hW0])) (And.intro hb (And.intro (fun w1 (h:Below W.heap.size W w1)=>new_nine W0 _ _ _ _ _ _ _ _ _ _ (w1:=w1) (by rw[←hW]; exact h)) (And.intro hcs (And.intro px py)))))
 rw[hz0] at HV
 obtain⟨e0,e1,e2,e3,_⟩:=hcs W br
 have HR:=Lib.hid hrz
 clear hv hb hb0 hb1 hW hW0 hz0 g1 g2 g3 g4 px py hcs hrz
 go_enter Tryz.func42,Tryz.ntmps42
 go_wp2_with fail
 rw[←HV.out.1]
 go_wp2_with fail
 refine HZ.out.mono ?_
 rintro e w1 ⟨rfl,hb1⟩
 obtain⟨e0,e1,e2,e3,_⟩:=HV.out.2.2.2.1 w1 hb1
 cases rz
 ·have hne:¬(y.re=0∧y.im=0):=of_decide_eq_false HR.out.symm
  have hn0:y.re*y.re+y.im*y.im≠0:=fun h=>hne (norm_zero.1 h)
  have hy0:y≠⟨0,0⟩:=fun h=>hne (by rw[h]; exact⟨rfl,rfl⟩)
  have HD:=Lib.hid (XDiv_any x.re x.im y.re y.im _ rfl hn0 (.agg #[u1,u2]) (.agg #[u3,u4]) NoA w1 (CP.below HV.out.2.2.2.2.1 hb1) (CP.below HV.out.2.2.2.2.2 hb1) (rcv_noA _) k l hx.1 hx.2 hy.1 hy.2 hkl)
  have HN:=Lib.hid (And.intro hn0 (And.intro hy0 hb1))
  clear hne hn0 hy0 hb1 HZ
  go_wp2_with fail
  refine HD.out.mono ?_
  rintro e w2 ⟨v2,rfl,hb2,hc2⟩
  have hb02:=HN.out.2.2.trans (hb2.mono HN.out.2.2.size)
  have HG:=Lib.hid (XGauss_any (x / y).re (x / y).im v2 NoA w2 hc2 ((ZL_div HN.out.1 hx hy).1.mono (by omega)) ((ZL_div HN.out.1 hx hy).2.mono (by omega)))
  obtain⟨b1,t1,b2,t2,b3,t3,b4,t4,eg⟩:=outG_eight (x / y).re (x / y).im
  obtain⟨kc,hkc⟩:∃ kc,kc=outGC (x / y).re (x / y).im:=⟨_,rfl⟩
  rw[eg,←hkc] at HG
  have HK:=Lib.hid (And.intro eg hkc)
  have HB2:=Lib.hid hb02
  clear hc2 hb2 hb02 eg hkc HD e0 e1 e2 e3
  go_wp2_with fail
  refine HG.out.mono ?_
  rintro e w3 ⟨rfl,hb3⟩
  have hbw:=HB2.out.trans (hb3.mono HB2.out.size)
  obtain⟨⟨c0,c1,c2,c3,c4,c5,c6,c7,c8⟩,f0,f1,f2,f3,f4,f5,f6,f7,f8⟩:=HV.out.2.2.1 w3 hbw
  have hn2:w.heap.size+1<w3.heap.size:=by
   have h1:=hbw.size
   have h2:W.heap.size=w.heap.size+2:=by rw[HV.out.1]; simp
   omega
  have HF:=Lib.hid (HV.out.2.1.trans (hbw.mono HV.out.2.1.size))
  clear hb3 hbw HG
  by_cases ck:kc=0
  ·have HP:=Lib.hid (outP_short HN.out.2.1 (HK.out.2.symm.trans ck) HK.out.1)
   subst ck
   go_wp2_with fail
   refine bodyPost_ret (v:=.tuple #[.agg #[.bool false,.bool b1,.string t1,.bool b2,.string t2,.bool b3,.string t3,.bool b4,.string t4],.int .i64 0]) (by simp[results,Tryz.results42,go_sem,c0,c1,c2,c3,c4,c5,c6,c7,c8,hn2,cell_alloc_lt]) rfl ⟨by rw[HP.out.1,HP.out.2],?_⟩
   exact Below.alloc (((((((((HF.out.setCell (p:=⟨w.heap.size+1,0,none⟩) (Nat.le_succ _) _).setCell (p:=⟨w.heap.size+1,1,none⟩) (Nat.le_succ _) _).setCell (p:=⟨w.heap.size+1,2,none⟩) (Nat.le_succ _) _).setCell (p:=⟨w.heap.size+1,3,none⟩) (Nat.le_succ _) _).setCell (p:=⟨w.heap.size+1,4,none⟩) (Nat.le_succ _) _).setCell (p:=⟨w.heap.size+1,5,none⟩) (Nat.le_succ _) _).setCell (p:=⟨w.heap.size+1,6,none⟩) (Nat.le_succ _) _).setCell (p:=⟨w.heap.size+1,7,none⟩) (Nat.le_succ _) _).setCell (p:=⟨w.heap.size+1,8,none⟩) (Nat.le_succ _) _) (by simp only[setCell_size]; exact HF.out.size) _
  ·have HP:=Lib.hid (outP_long HN.out.2.1 (fun h=>ck (HK.out.2.trans h)))
   have hk4:kc=4:=HK.out.2.trans HP.out.2.2
   subst hk4
   go_wp2_with fail
   refine bodyPost_ret (v:=.tuple #[zP,.int .i64 4]) (by unfold zP; simp[results,Tryz.results42,go_sem,c0,c1,c2,c3,c4,c5,c6,c7,c8,hn2,cell_alloc_lt]) rfl ⟨by rw[HP.out.1,HP.out.2.1],?_⟩
   exact Below.alloc (((((((((HF.out.setCell (p:=⟨w.heap.size+1,0,none⟩) (Nat.le_succ _) _).setCell (p:=⟨w.heap.size+1,1,none⟩) (Nat.le_succ _) _).setCell (p:=⟨w.heap.size+1,2,none⟩) (Nat.le_succ _) _).setCell (p:=⟨w.heap.size+1,3,none⟩) (Nat.le_succ _) _).setCell (p:=⟨w.heap.size+1,4,none⟩) (Nat.le_succ _) _).setCell (p:=⟨w.heap.size+1,5,none⟩) (Nat.le_succ _) _).setCell (p:=⟨w.heap.size+1,6,none⟩) (Nat.le_succ _) _).setCell (p:=⟨w.heap.size+1,7,none⟩) (Nat.le_succ _) _).setCell (p:=⟨w.heap.size+1,8,none⟩) (Nat.le_succ _) _) (by simp only[setCell_size]; exact HF.out.size) _
 ·have hB1:=Lib.hid hb1
  have H1:=Lib.hid (Infinity_any w1)
  clear hb1
  go_wp2_with fail
  refine H1.out.mono ?_
  rintro e w2 ⟨rfl,hb2⟩
  have hbw:=hB1.out.trans (hb2.mono hB1.out.size)
  obtain⟨⟨c0,c1,c2,c3,c4,c5,c6,c7,c8⟩,f0,f1,f2,f3,f4,f5,f6,f7,f8⟩:=HV.out.2.2.1 w2 hbw
  have HF:=Lib.hid (HV.out.2.1.trans (hbw.mono HV.out.2.1.size))
  clear hb2 hbw e0 e1 e2 e3
  go_wp2_with fail
  refine bodyPost_ret (v:=.tuple #[infP,.int .i64 0]) (by unfold infP; simp[results,Tryz.results42,go_sem,c0,c1,c2,c3,c4,c5,c6,c7,c8]) rfl ⟨?_,?_⟩
  ·have hy0:y=⟨0,0⟩:=by
    have:=of_decide_eq_true HR.out.symm
    obtain⟨re,im⟩:=y
    obtain⟨h1,h2⟩:=this
    simp only at h1 h2
    rw[h1,h2]
   unfold outP outPC
   rw[if_pos hy0,if_pos hy0]
  ·exact(((((((((HF.out.setCell (p:=⟨w.heap.size+1,0,none⟩) (Nat.le_succ _) _).setCell (p:=⟨w.heap.size+1,1,none⟩) (Nat.le_succ _) _).setCell (p:=⟨w.heap.size+1,2,none⟩) (Nat.le_succ _) _).setCell (p:=⟨w.heap.size+1,3,none⟩) (Nat.le_succ _) _).setCell (p:=⟨w.heap.size+1,4,none⟩) (Nat.le_succ _) _).setCell (p:=⟨w.heap.size+1,5,none⟩) (Nat.le_succ _) _).setCell (p:=⟨w.heap.size+1,6,none⟩) (Nat.le_succ _) _).setCell (p:=⟨w.heap.size+1,7,none⟩) (Nat.le_succ _) _).setCell (p:=⟨w.heap.size+1,8,none⟩) (Nat.le_succ _) _)
end Go.Proofs.YtjlhiaafnpompaaGreat
namespace Go.Proofs.YtjlhiaafnpompaaGreat
open Go.RowKit Tr
def encQ(z:QC):Value:=encG z.re z.im
abbrev Pt:=Option QC
def ptX:Pt→QC
 | none=>⟨1,0⟩
 | some z=>z
def ptY:Pt→QC
 | none=>⟨0,0⟩
 | some _=>⟨1,0⟩
def ShortZ(z:QC):Prop:=ShortF z.re∧ShortF z.im
def ShortP:Pt→Prop
 | none=>True
 | some z=>ShortZ z
theorem RL_short{q:Rat}(h:ShortF q):RL q 1024:=by
 refine⟨?_,?_⟩
 ·exact Nat.le_trans (wl_size (numS_strN _)) h.1
 ·exact Nat.le_trans (wl_size (numS_strN _)) h.2
theorem ZL_short{z:QC}(h:ShortZ z):ZL z 1024:=⟨RL_short h.1,RL_short h.2⟩
end Go.Proofs.YtjlhiaafnpompaaGreat
namespace Go.Proofs.YtjlhiaafnpompaaGreat
open Go.RowKit Tr
structure RawG where
 (n1 n2 n3 n4:Bool)
 (s1 s2 s3 s4:ByteArray)
def RawG.val(g:RawG):Value:=.agg #[.bool g.n1,.string g.s1,.bool g.n2,.string g.s2,.bool g.n3,.string g.s3,.bool g.n4,.string g.s4]
def RawG.cells(g:RawG):List GF:=[gx (.bool g.n1),gx (.string g.s1),gx (.bool g.n2),gx (.string g.s2),gx (.bool g.n3),gx (.string g.s3),gx (.bool g.n4),gx (.string g.s4)]
structure RawP where
 i:Bool
 g:RawG
def RawP.val(p:RawP):Value:=.agg #[.bool p.i,.bool p.g.n1,.string p.g.s1,.bool p.g.n2,.string p.g.s2,.bool p.g.n3,.string p.g.s3,.bool p.g.n4,.string p.g.s4]
def RawP.cells(p:RawP):List GF:=gx (.bool p.i) :: p.g.cells
def pA(i:Nat):List AC:=[.sym i,.sym (i+1),.sym (i+2),.sym (i+3),.sym (i+4),.sym (i+5),.sym (i+6),.sym (i+7),.sym (i+8)]
def GOk(v:Value):Prop:=∃ z:QC,v=encQ z∧ShortZ z
set_option maxRecDepth 100000 in
theorem run_eql_rg(w:World)(p q:RawG)(r:Bool)(hr:r=true↔p.val=q.val):(binOp .eql 27 p.val q.val).run Tryz.prog w=.ok (.bool r) w:=by
 obtain⟨n1,n2,n3,n4,s1,s2,s3,s4⟩:=p
 obtain⟨m1,m2,m3,m4,t1,t2,t3,t4⟩:=q
 simp only[RawG.val] at hr ⊢
 simp only[Value.agg.injEq,Array.mk.injEq,List.cons.injEq,Value.bool.injEq,Value.string.injEq,and_true] at hr
 go_simp
 simp only[toL_iff]
 cases r
 ·have hn:¬(n1=m1∧s1=t1∧n2=m2∧s2=t2∧n3=m3∧s3=t3∧n4=m4∧s4=t4):=fun h=>by cases hr.2 h
  repeat' split
  all_goals first
   | rfl
   | (exfalso; apply hn; refine⟨?_,?_,?_,?_,?_,?_,?_,?_⟩<;>assumption)
 ·obtain⟨rfl,rfl,rfl,rfl,rfl,rfl,rfl,rfl⟩:=hr.1 rfl
  simp
def rawQ(z:QC):RawG:=⟨decide (z.re.num<0),false,decide (z.im.num<0),false,strN z.re.num.natAbs,strN z.re.den,strN z.im.num.natAbs,strN z.im.den⟩
theorem rawQ_val(z:QC):(rawQ z).val=encQ z:=rfl
def rawPt:Pt→RawP
 | none=>⟨true,⟨false,false,false,false,⟨#[]⟩,⟨#[]⟩,⟨#[]⟩,⟨#[]⟩⟩⟩
 | some z=>⟨false,rawQ z⟩
theorem encF_inj'{x y:Rat}(h:encF x=encF y):x=y:=by
 have:=h
 unfold encF at h
 simp only[Value.agg.injEq,Array.mk.injEq,List.cons.injEq,Value.bool.injEq,Value.string.injEq,and_true,true_and] at h
 obtain⟨h1,h2,h3⟩:=h
 have e2:=strN_inj h2
 have e3:=strN_inj h3
 refine Rat.ext ?_ e3
 by_cases hx:x.num<0<;>by_cases hy:y.num<0<;>simp[hx,hy] at h1<;>omega
theorem encQ_inj'{x y:QC}(h:encQ x=encQ y):x=y:=by
 unfold encQ encG at h
 simp only[Value.agg.injEq,Array.mk.injEq,List.cons.injEq,Value.bool.injEq,Value.string.injEq,and_true,true_and] at h
 obtain⟨h1,h2,h3,h4,h5,h6⟩:=h
 have e1:x.re=y.re:=encF_inj' (by unfold encF; rw[h1,h2,h3])
 have e2:x.im=y.im:=encF_inj' (by unfold encF; rw[h4,h5,h6])
 cases x; cases y; simp_all
end Go.Proofs.YtjlhiaafnpompaaGreat
namespace Tr
open Go Go.RowKit Go.Proofs.YtjlhiaafnpompaaGreat
theorem ZL.r{z:QC}{k:Nat}(h:ZL z k):RL z.re k:=h.1
theorem ZL.i{z:QC}{k:Nat}(h:ZL z k):RL z.im k:=h.2
end Tr
namespace Go.Proofs.YtjlhiaafnpompaaGreat
open Go.RowKit Tr
end Go.Proofs.YtjlhiaafnpompaaGreat
namespace Go.Proofs.YtjlhiaafnpompaaGreat
open Go.RowKit Tr
structure RawS where
 x:RawG
 y:RawG
def RawS.val(s:RawS):Value:=.agg #[.bool s.x.n1,.string s.x.s1,.bool s.x.n2,.string s.x.s2,.bool s.x.n3,.string s.x.s3,.bool s.x.n4,.string s.x.s4,.bool s.y.n1,.string s.y.s1,.bool s.y.n2,.string s.y.s2,.bool s.y.n3,.string s.y.s3,.bool s.y.n4,.string s.y.s4]
def RawS.cells(s:RawS):List GF:=s.x.cells++s.y.cells
def zeroG:RawG:=⟨false,false,false,false,⟨#[]⟩,⟨#[]⟩,⟨#[]⟩,⟨#[]⟩⟩
end Go.Proofs.YtjlhiaafnpompaaGreat
namespace Go.Proofs.YtjlhiaafnpompaaGreat
open Go.RowKit Tr
def RawG.vals(g:RawG):List Value:=[.bool g.n1,.string g.s1,.bool g.n2,.string g.s2,.bool g.n3,.string g.s3,.bool g.n4,.string g.s4]
def RawP.vals(p:RawP):List Value:=.bool p.i :: p.g.vals
def syms(i n:Nat):List AC:=(List.range n).map fun k=>.sym (i+k)
theorem rawG_inj{g h:RawG}(e:g.val=h.val):g=h:=by
 obtain⟨n1,n2,n3,n4,s1,s2,s3,s4⟩:=g
 obtain⟨m1,m2,m3,m4,t1,t2,t3,t4⟩:=h
 simp only[RawG.val,Value.agg.injEq,Array.mk.injEq,List.cons.injEq,Value.bool.injEq,Value.string.injEq,and_true] at e
 obtain⟨rfl,rfl,rfl,rfl,rfl,rfl,rfl,rfl⟩:=e
 rfl
theorem gOk_raw{g:RawG}(h:GOk g.val):∃ z,g=rawQ z∧ShortZ z:=by
 obtain⟨z,e,hs⟩:=h
 exact⟨z,rawG_inj (by rw[e,rawQ_val]),hs⟩
end Go.Proofs.YtjlhiaafnpompaaGreat
namespace Go.Proofs.YtjlhiaafnpompaaGreat
open Go.RowKit Tr
end Go.Proofs.YtjlhiaafnpompaaGreat
