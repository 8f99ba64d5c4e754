/- Laws for the walk. -/
import Derived.Test.YtjlhiaafnpompaaGreatYax
set_option linter.unusedVariables false
set_option maxHeartbeats 4000000
namespace Go.Proofs.YtjlhiaafnpompaaGreat
open Go.RowKit Tr
theorem RatB.ratP{base:Nat}{q:Rat}{v:Value}{w:World}{A:Nat→Prop}(h:RatB base q v w A):RatP q v w A:=by
 obtain⟨_,_,_,_,_,_,_,_,h⟩:=h; exact h
theorem PutR.ratA{m:Nat}{q:Rat}{w w':World}(h:PutR m q w w'){A:Nat→Prop}(hA:Rcv A w)(hm:¬A m):RatP q (.pointer (some ⟨m,0,none⟩)) w' A :=
 (h.ratP hA).wider fun b hb=>⟨hb,fun e=>hm (e▸hb)⟩
theorem half_eq:Rat.divInt 1 2=1 / 2:=by decide +kernel
set_option maxRecDepth 100000 in
theorem sqrt_any(z:QC)(v:Value)(A:Nat→Prop)(w:World)(hv:CQ z v w A)(hA:Rcv A w)(k:Nat)(hz:ZL z k)(hk:k≤1000000) :
  Calls Tryz.prog 112 #[v] w fun e w'=>Below w.heap.size w w'∧(HasQ z→∃ u,e=.returned (.tuple #[u,.bool true])∧CQ (rt z) u w' A)∧(¬HasQ z→e=.returned (.tuple #[.agg #[.pointer none,.pointer none],.bool false])):=by
 obtain⟨u1,u2,rfl,h1,h2⟩:=hv
 obtain⟨W,HV,hs2,e0,e1⟩:=xbox_one w u1 u2 A hA
 have hWs:W.heap.size=w.heap.size+2:=by rw[HV.out.1]; simp
 have h1:=new_more (RatP.keeps z.re) (n:=w.heap.size+1) HV.out.2.1 (by omega) h1
 have h2:=new_more (RatP.keeps z.im) (n:=w.heap.size+1) HV.out.2.1 (by omega) h2
 have HU:=Lib.hid (And.intro h1 (And.intro h2 (And.intro e0 e1)))
 clear hA h1 h2
 obtain⟨r1,hr1⟩:∃ r1:Bool,r1=true↔HasR (nm z):=by
  by_cases h:HasR (nm z)
  ·exact⟨true,by simp[h]⟩
  ·exact⟨false,by simp[h]⟩
 have H1:=Lib.hid hr1
 clear hr1
 go_enter Tryz.func112,Tryz.ntmps112
 go_wp2_with fail
 rw[←HV.out.1]
 go_wp2_with fail
 have hA0:=HV.out.2.2.1
 refine(XNorm_any z.re z.im _ (Mo A (w.heap.size+1)) W ⟨u1,u2,rfl,FactU.done (RatP.keeps _) HU.out.1,FactU.done (RatP.keeps _) HU.out.2.1⟩ hA0 k hz.1 hz.2 (by omega)).mono ?_
 rintro e w1 ⟨v1,rfl,hb1,hn1⟩
 have lN:RL (nm z) (k+k+(k+k)+1):=RL_add (RL_mul hz.1 hz.1) (RL_mul hz.2 hz.2)
 have hS1:=Lib.hid (square_any (nm z) r1 H1.out v1 (Mo A (w.heap.size+1)) w1 hn1 (hA0.below hb1) _ lN (by omega))
 have HB1:=Lib.hid hb1
 have hW1:=hb1.size
 clear hb1 hn1 hA0
 go_wp2_with fail
 refine hS1.out.mono ?_
 rintro e w2 ⟨u3,rfl,hb2,hr2⟩
 have HB2:=Lib.hid (And.intro (HB1.out.trans (hb2.mono HB1.out.size)) hr2)
 have hW2:=hb2.size
 clear hb2 hr2 hS1
 cases r1
 ·have hno:¬HasQ z:=fun h=>by have:=H1.out.2 (rt_prog_iff.1 h).1; cases this
  obtain⟨c0,c1,f0,f1⟩:=HV.out.2.2.2 w2 HB2.out.1
  go_wp2_with fail
  refine bodyPost_ret (v:=.tuple #[.agg #[.pointer none,.pointer none],.bool false]) (by simp[results,Tryz.results112,go_sem,c0,c1]) rfl ?_
  exact⟨(((HV.out.2.1.trans (HB2.out.1.mono HV.out.2.1.size)).setCell (p:=⟨w.heap.size+1,0,none⟩) (Nat.le_succ _) _).setCell (p:=⟨w.heap.size+1,1,none⟩) (Nat.le_succ _) _),fun h=>absurd h hno,fun _=>rfl⟩
 have hn:=sqr_ok (H1.out.1 rfl)
 have lS:RL (sqr (nm z)) (k+k+(k+k)+1):=RL_sqr lN (by omega)
 have hR2:=HB2.out.2 rfl
 have HN:=Lib.hid (And.intro hn (And.intro lS hR2))
 clear hn lS hR2 lN
 go_wp2_with fail
 refine(NewRat_any 1 2 (by decide) (by decide) (by decide) (by decide) (by decide) w2).mono ?_
 rintro e w3 ⟨v3,rfl,hn3⟩
 have hW3:=hn3.1.size
 have hA3:Rcv (Mo A (w.heap.size+1)) w2:=HV.out.2.2.1.below HB2.out.1
 have H3:=Lib.hid (And.intro (HB2.out.1.trans (hn3.1.mono (by omega))) (And.intro (hn3.2 _ hA3) (Fact.Keeps.below (RatB.keeps _ _) hn3.1 HN.out.2.2)))
 clear hn3 hA3
 obtain⟨w4,hw4⟩:∃ w4,w4=w3.alloc zR:=⟨_,rfl⟩
 obtain⟨w5,hw5⟩:∃ w5,w5=w4.alloc zR:=⟨_,rfl⟩
 have hs4:w4.heap.size=w3.heap.size+1:=by rw[hw4]; simp
 have hs5:w5.heap.size=w3.heap.size+2:=by rw[hw5]; simp[hs4]
 have hb34:Below w3.heap.size w3 w4:=by rw[hw4]; exact br.alloc (Nat.le_refl _) _
 have hb45:Below w4.heap.size w4 w5:=by rw[hw5]; exact br.alloc (Nat.le_refl _) _
 have hb35:=hb34.trans (hb45.mono hb34.size)
 have hb5:Below W.heap.size W w5:=H3.out.1.trans (hb35.mono H3.out.1.size)
 have n4:w5.heap[w3.heap.size]?=some zR:=(hb45.block _ (by omega)).trans (by rw[hw4]; exact heap_alloc_new w3 _)
 have n5:w5.heap[w3.heap.size+1]?=some zR:=by rw[hw5,←hs4]; exact heap_alloc_new w4 _
 have d0:w5.cell? ⟨w.heap.size,0,none⟩=some u1:=(hb5.cell (p:=⟨w.heap.size,0,none⟩) hs2).trans HU.out.2.2.1
 rw[hw5,hw4] at d0
 have H5:=Lib.hid (And.intro hb35 (And.intro hb5 (And.intro n4 (And.intro n5 (And.intro hw4 hw5)))))
 clear hb34 hb45 hb35 hb5 n4 n5 hw4 hw5
 go_wp2_with fail
 clear d0
 rw[←H5.out.2.2.2.2.1,←H5.out.2.2.2.2.2]
 have hlt:∀ m,W.heap.size≤m→¬(Mo A (w.heap.size+1)) m:=fun m hm h=>by have:=HV.out.2.2.1.lt h; omega
 have hA5:=HV.out.2.2.1.below H5.out.2.1
 refine(RAdd_any (w3.heap.size+1) _ (sqr (nm z)) z.re u3 u1 (Mo A (w.heap.size+1)) w5 H5.out.2.2.2.1 (by decide) noW_zRat ((RatB.ratP H3.out.2.2).below H5.out.1) ((FactU.done (RatP.keeps _) HU.out.1).below H5.out.2.1) (k+k+(k+k)+1) k HN.out.2.1 hz.1 (by omega)).mono ?_
 rintro e w6 ⟨rfl,hp6⟩
 have hs6:=hp6.1.size
 have hb56:Below w3.heap.size w5 w6:=hp6.1.below (by omega) (by omega)
 have hr6:=hp6.ratA hA5 (hlt _ (by omega))
 have n6:w6.heap[w3.heap.size]?=some zR:=(hp6.1.block _ (by omega) (by omega)).trans H5.out.2.2.1
 have H6:=Lib.hid (And.intro (H5.out.1.trans hb56) (And.intro hr6 n6))
 clear hp6 hb56 hr6 n6 hA5
 go_wp2_with fail
 have hb6:=H3.out.1.trans (H6.out.1.mono H3.out.1.size)
 have hA6:=HV.out.2.2.1.below hb6
 have l6:RL (sqr (nm z)+z.re) (k+k+(k+k)+1+k+1):=RL_add HN.out.2.1 hz.1
 have lh:RL (Rat.divInt 1 2) 1:=RL_divInt (by decide) (words_length_le (by decide)) (words_length_le (by decide))
 refine(RMul_any w3.heap.size _ (Rat.divInt 1 2) (sqr (nm z)+z.re) v3 _ (Mo A (w.heap.size+1)) w6 H6.out.2.2 (by decide) noW_zRat (H3.out.2.1.below H6.out.1) H6.out.2.1 1 _ lh l6 (by omega)).mono ?_
 rintro e w7 ⟨rfl,hp7⟩
 have hs7:=hp7.1.size
 have hb7:Below w3.heap.size w3 w7:=H6.out.1.trans (hp7.1.below (Nat.le_refl _) (by omega))
 have hr7:=hp7.ratA hA6 (hlt _ (by omega))
 obtain⟨q2,hq2⟩:∃ q2,q2=(sqr (nm z)+z.re)*(1 / 2):=⟨_,rfl⟩
 have l7:RL q2 (1+(k+k+(k+k)+1+k+1)):=by rw[hq2,Rat.mul_comm,←half_eq]; exact RL_mul lh l6
 rw[half_eq,Rat.mul_comm,←hq2] at hr7
 obtain⟨r2,hr2⟩:∃ r2:Bool,r2=true↔HasR q2:=by
  by_cases h:HasR q2
  ·exact⟨true,by simp[h]⟩
  ·exact⟨false,by simp[h]⟩
 have hb7':=H3.out.1.trans (hb7.mono H3.out.1.size)
 have hS2:=Lib.hid (square_any q2 r2 hr2 _ (Mo A (w.heap.size+1)) w7 hr7 (HV.out.2.2.1.below hb7') _ l7 (by omega))
 have H7:=Lib.hid (And.intro hb7 (And.intro hq2 (And.intro hr2 l7)))
 clear hp7 hb7 hr7 hq2 hr2 l7 hb7' hb6 hA6 l6
 go_wp2_with fail
 refine hS2.out.mono ?_
 rintro e w8 ⟨u4,rfl,hb8,hx8⟩
 have hs8:=hb8.size
 have H8:=Lib.hid (And.intro (H3.out.1.trans ((H7.out.1.trans (hb8.mono (by omega))).mono H3.out.1.size)) (And.intro (Fact.Keeps.below (RatB.keeps _ _) (H7.out.1.trans (hb8.mono (by omega))) H3.out.2.2) (And.intro (H3.out.2.1.below (H7.out.1.trans (hb8.mono (by omega)))) hx8)))
 clear hb8 hx8 hS2
 obtain⟨w9,hw9⟩:∃ w9,w9=w8.alloc zR:=⟨_,rfl⟩
 obtain⟨w10,hw10⟩:∃ w10,w10=w9.alloc zR:=⟨_,rfl⟩
 have hs9:w9.heap.size=w8.heap.size+1:=by rw[hw9]; simp
 have hs10:w10.heap.size=w8.heap.size+2:=by rw[hw10]; simp[hs9]
 have hb34:Below w8.heap.size w8 w9:=by rw[hw9]; exact br.alloc (Nat.le_refl _) _
 have hb45:Below w9.heap.size w9 w10:=by rw[hw10]; exact br.alloc (Nat.le_refl _) _
 have hb35:=hb34.trans (hb45.mono hb34.size)
 have hb5:Below W.heap.size W w10:=H8.out.1.trans (hb35.mono H8.out.1.size)
 have n4:w10.heap[w8.heap.size]?=some zR:=(hb45.block _ (by omega)).trans (by rw[hw9]; exact heap_alloc_new w8 _)
 have n5:w10.heap[w8.heap.size+1]?=some zR:=by rw[hw10,←hs9]; exact heap_alloc_new w9 _
 have d0:w10.cell? ⟨w.heap.size,0,none⟩=some u1:=(hb5.cell (p:=⟨w.heap.size,0,none⟩) hs2).trans HU.out.2.2.1
 rw[hw10,hw9] at d0
 have H10:=Lib.hid (And.intro hb35 (And.intro hb5 (And.intro n4 (And.intro n5 (And.intro hw9 hw10)))))
 clear hb34 hb45 hb35 hb5 n4 n5 hw9 hw10
 go_wp2_with fail
 clear d0
 rw[←H10.out.2.2.2.2.1,←H10.out.2.2.2.2.2]
 have hA10:=HV.out.2.2.1.below H10.out.2.1
 refine(RSub_any (w8.heap.size+1) _ (sqr (nm z)) z.re u3 u1 (Mo A (w.heap.size+1)) w10 H10.out.2.2.2.1 (by decide) noW_zRat ((RatB.ratP H8.out.2.1).below H10.out.1) ((FactU.done (RatP.keeps _) HU.out.1).below H10.out.2.1) (k+k+(k+k)+1) k HN.out.2.1 hz.1 (by omega)).mono ?_
 rintro e w11 ⟨rfl,hp6⟩
 have hs11:=hp6.1.size
 have hb56:Below w8.heap.size w10 w11:=hp6.1.below (by omega) (by omega)
 have hr6:=hp6.ratA hA10 (hlt _ (by omega))
 have n6:w11.heap[w8.heap.size]?=some zR:=(hp6.1.block _ (by omega) (by omega)).trans H10.out.2.2.1
 have H11:=Lib.hid (And.intro (H10.out.1.trans hb56) (And.intro hr6 n6))
 clear hp6 hb56 hr6 n6 hA10
 go_wp2_with fail
 have hb6:=H8.out.1.trans (H11.out.1.mono H8.out.1.size)
 have hA6:=HV.out.2.2.1.below hb6
 have l6:RL (sqr (nm z) - z.re) (k+k+(k+k)+1+k+1):=RL_sub HN.out.2.1 hz.1
 refine(RMul_any w8.heap.size _ (Rat.divInt 1 2) (sqr (nm z) - z.re) v3 _ (Mo A (w.heap.size+1)) w11 H11.out.2.2 (by decide) noW_zRat (H8.out.2.2.1.below H11.out.1) H11.out.2.1 1 _ lh l6 (by omega)).mono ?_
 rintro e w12 ⟨rfl,hp7⟩
 have hs12:=hp7.1.size
 have hb7:Below w8.heap.size w8 w12:=H11.out.1.trans (hp7.1.below (Nat.le_refl _) (by omega))
 have hr7:=hp7.ratA hA6 (hlt _ (by omega))
 obtain⟨q3,hq3⟩:∃ q3,q3=(sqr (nm z) - z.re)*(1 / 2):=⟨_,rfl⟩
 have l7:RL q3 (1+(k+k+(k+k)+1+k+1)):=by rw[hq3,Rat.mul_comm,←half_eq]; exact RL_mul lh l6
 rw[half_eq,Rat.mul_comm,←hq3] at hr7
 obtain⟨r3,hr3⟩:∃ r3:Bool,r3=true↔HasR q3:=by
  by_cases h:HasR q3
  ·exact⟨true,by simp[h]⟩
  ·exact⟨false,by simp[h]⟩
 have hb7':=H8.out.1.trans (hb7.mono H8.out.1.size)
 have hS3:=Lib.hid (square_any q3 r3 hr3 _ (Mo A (w.heap.size+1)) w12 hr7 (HV.out.2.2.1.below hb7') _ l7 (by omega))
 have H12:=Lib.hid (And.intro hb7 (And.intro hq3 (And.intro hr3 l7)))
 clear hp7 hb7 hr7 hq3 hr3 l7 hb7' hb6 hA6 l6
 go_wp2_with fail
 refine hS3.out.mono ?_
 rintro e w13 ⟨u5,rfl,hb13,hx13⟩
 have hs13:=hb13.size
 have H13:=Lib.hid (And.intro (H8.out.1.trans ((H12.out.1.trans (hb13.mono (by omega))).mono H8.out.1.size)) (And.intro (H12.out.1.trans (hb13.mono (by omega))) (And.intro hb13 hx13)))
 clear hb13 hx13 hS3
 have hiff:HasQ z↔r2=true∧r3=true:=by
  rw[rt_prog_iff,H7.out.2.2.1,H12.out.2.2.1,H7.out.2.1,H12.out.2.1]
  exact⟨fun h=>h.2,fun h=>⟨H1.out.1 trivial,h⟩⟩
 have hret:Below w.heap.size w ((w13.setCell ⟨w.heap.size+1,0,none⟩ (.pointer none)).setCell ⟨w.heap.size+1,1,none⟩ (.pointer none)):=((HV.out.2.1.trans (H13.out.1.mono HV.out.2.1.size)).setCell (p:=⟨w.heap.size+1,0,none⟩) (Nat.le_succ _) _).setCell (p:=⟨w.heap.size+1,1,none⟩) (Nat.le_succ _) _
 have HR:=Lib.hid (And.intro hiff hret)
 clear hiff hret
 obtain⟨c0,c1,f0,f1⟩:=HV.out.2.2.2 w13 H13.out.1
 cases r2
 ·go_wp2_with fail
  refine bodyPost_ret (v:=.tuple #[.agg #[.pointer none,.pointer none],.bool false]) (by simp[results,Tryz.results112,go_sem,c0,c1]) rfl ?_
  exact⟨HR.out.2,fun h=>(by have:=(HR.out.1.1 h).1; cases this),fun _=>rfl⟩
 cases r3
 ·go_wp2_with fail
  refine bodyPost_ret (v:=.tuple #[.agg #[.pointer none,.pointer none],.bool false]) (by simp[results,Tryz.results112,go_sem,c0,c1]) rfl ?_
  exact⟨HR.out.2,fun h=>(by have:=(HR.out.1.1 h).2; cases this),fun _=>rfl⟩
 clear c0 c1 f0 f1
 have hq:HasQ z:=HR.out.1.2 ⟨rfl,rfl⟩
 have hA13:=HV.out.2.2.1.below H13.out.1
 have hb812:=H12.out.1
 have hx12:RatP (sqr q2) u4 w12 (Mo A (w.heap.size+1)):=(RatB.ratP (H8.out.2.2.2 rfl)).below hb812
 have hp1:=rt_prog (n:=sqr (nm z)) (x:=sqr q2) (y:=sqr q3) (sqr_ok (H1.out.1 trivial)) (by rw[←H7.out.2.1]; exact sqr_ok (H7.out.2.2.1.1 rfl)) (by rw[←H12.out.2.1]; exact sqr_ok (H12.out.2.2.1.1 rfl))
 have hrt:=(rt_eq hp1).2
 have hi13:RatP z.im u2 w13 (Mo A (w.heap.size+1)):=(FactU.done (RatP.keeps _) HU.out.2.1).below H13.out.1
 have HSI:=Lib.hid (RSign_any z.im u2 _ w13 hi13)
 have d1:w13.cell? ⟨w.heap.size,1,none⟩=some u2:=(H13.out.1.cell (p:=⟨w.heap.size,1,none⟩) hs2).trans HU.out.2.2.2
 have H14:=Lib.hid (And.intro hq (And.intro hA13 (And.intro hx12 (And.intro hp1 hrt))))
 obtain⟨m5,C5,rfl,hm5b,hm5A,hm5,hC5,hNC5,hr5⟩:=H13.out.2.2.2 rfl
 have HY:=Lib.hid (And.intro hm5b (And.intro hm5A (And.intro hm5 (And.intro hC5 (And.intro hNC5 hr5)))))
 obtain⟨mx,rfl⟩:=hx12.shape
 clear hq hA13 hb812 hx12 hp1 hrt hi13 hm5b hm5A hm5 hC5 hNC5 hr5
 have lq3:RL (sqr q3) (1+(k+k+(k+k)+1+k+1)):=RL_sqr H12.out.2.2.2 (by omega)
 by_cases him:z.im<0
 ·have hs:=sign_lt0 him
  go_wp2_with fail
  refine HSI.out.mono ?_
  rintro e w' ⟨rfl,rfl⟩
  go_wp2_with fail
  refine(RNeg_any m5 C5 (sqr q3) _ (Mo A (w.heap.size+1)) w13 HY.out.2.2.1 HY.out.2.2.2.1 HY.out.2.2.2.2.1 HY.out.2.2.2.2.2 (lq3.mono (by omega))).mono ?_
  rintro e w14 ⟨rfl,hp14⟩
  have hb14:Below w12.heap.size w12 w14:=H13.out.2.2.1.trans (hp14.1.below HY.out.1 hs13)
  have H15:=Lib.hid (And.intro (H13.out.1.trans (hp14.1.below (Nat.le_trans (by omega) HY.out.1) H13.out.1.size)) (And.intro (H14.out.2.2.1.below hb14) (hp14.ratA H14.out.2.1 HY.out.2.1)))
  clear hp14 hb14
  obtain⟨wS,hwS⟩:∃ wS,wS=w14.alloc (.cells #[.pointer (some ⟨mx,0,none⟩),.pointer (some ⟨m5,0,none⟩)] 76):=⟨_,rfl⟩
  have hbS:Below w14.heap.size w14 wS:=by rw[hwS]; exact br.alloc (Nat.le_refl _) _
  obtain⟨g0,g1,_⟩:=new_two w14 (.pointer (some ⟨mx,0,none⟩)) (.pointer (some ⟨m5,0,none⟩)) 76 br
  rw[←hwS] at g0 g1
  have HG:=Lib.hid (And.intro g0 g1)
  clear g0 g1
  obtain⟨k0,k1,l0,l1⟩:=new_two w14 (.pointer none) (.pointer none) 76 br
  have HSS:=Lib.hid (And.intro hwS (And.intro hbS (And.intro ((H15.out.1).trans (hbS.mono (H15.out.1).size)) (And.intro (H15.out.2.1.below hbS) (H15.out.2.2.below hbS)))))
  clear hwS hbS
  go_wp2_with fail
  rw[←HSS.out.1]
  refine(RSign_any (sqr q2) _ (Mo A (w.heap.size+1)) wS HSS.out.2.2.2.1).mono ?_
  rintro e w' ⟨rfl,rfl⟩
  obtain⟨c0,c1,f0,f1⟩:=HV.out.2.2.2 wS HSS.out.2.2.1
  obtain⟨g0,g1⟩:=HG.out
  clear k0 k1 l0 l1
  have hend:∃ u,Ending.returned (.tuple #[.agg #[.pointer (some ⟨mx,0,none⟩),.pointer (some ⟨m5,0,none⟩)],.bool true])=.returned (.tuple #[u,.bool true])∧CQ (rt z) u ((wS.setCell ⟨w.heap.size+1,0,none⟩ (.pointer (some ⟨mx,0,none⟩))).setCell ⟨w.heap.size+1,1,none⟩ (.pointer (some ⟨m5,0,none⟩))) A∧Below w.heap.size w ((wS.setCell ⟨w.heap.size+1,0,none⟩ (.pointer (some ⟨mx,0,none⟩))).setCell ⟨w.heap.size+1,1,none⟩ (.pointer (some ⟨m5,0,none⟩))):=by
   obtain⟨u,h1,h2,h3⟩:=put_c (a:=sqr q2) (b:=(-sqr q3)) (n:=w.heap.size+1) (HV.out.2.1.trans (HSS.out.2.2.1.mono HV.out.2.1.size)) HSS.out.2.2.2.1 HSS.out.2.2.2.2 (Nat.le_succ _)
   cases h1
   refine⟨_,rfl,?_,h2⟩
   have hrt:=H14.out.2.2.2.2
   rw[if_pos him] at hrt
   rw[hrt]
   exact h3
  have HE:=Lib.hid hend
  clear hend
  by_cases hx0:sqr q2=0
  ·have h:=(rt_re H14.out.2.2.2.1).2.2
   simp only[hx0] at h
   rw[Rat.zero_mul,Rat.mul_zero] at h
   exact absurd him (by rw[h]; exact Rat.lt_irrefl)
  ·have e9:(sqr q2).num≠0:=fun h=>hx0 (Rat.num_eq_zero.1 h)
   go_wp2_with fail
   refine bodyPost_ret (v:=.tuple #[.agg #[.pointer (some ⟨mx,0,none⟩),.pointer (some ⟨m5,0,none⟩)],.bool true]) (by simp[results,Tryz.results112,go_sem,c0,c1]) rfl ?_
   obtain⟨u,h1,h2,h3⟩:=HE.out
   exact⟨h3,fun _=>⟨u,h1,h2⟩,fun h=>absurd H14.out.1 h⟩
 ·have hs:=sign_ge0 (Rat.not_lt.1 him)
  have H15:=Lib.hid (And.intro H13.out.1 (And.intro (H14.out.2.2.1.below H13.out.2.2.1) HY.out.2.2.2.2.2))
  go_wp2_with fail
  refine HSI.out.mono ?_
  rintro e w' ⟨rfl,rfl⟩
  obtain⟨wS,hwS⟩:∃ wS,wS=w13.alloc (.cells #[.pointer (some ⟨mx,0,none⟩),.pointer (some ⟨m5,0,none⟩)] 76):=⟨_,rfl⟩
  have hbS:Below w13.heap.size w13 wS:=by rw[hwS]; exact br.alloc (Nat.le_refl _) _
  obtain⟨g0,g1,_⟩:=new_two w13 (.pointer (some ⟨mx,0,none⟩)) (.pointer (some ⟨m5,0,none⟩)) 76 br
  rw[←hwS] at g0 g1
  have HG:=Lib.hid (And.intro g0 g1)
  clear g0 g1
  obtain⟨k0,k1,l0,l1⟩:=new_two w13 (.pointer none) (.pointer none) 76 br
  have HSS:=Lib.hid (And.intro hwS (And.intro hbS (And.intro ((H15.out.1).trans (hbS.mono (H15.out.1).size)) (And.intro (H15.out.2.1.below hbS) (H15.out.2.2.below hbS)))))
  clear hwS hbS
  go_wp2_with fail
  rw[←HSS.out.1]
  refine(RSign_any (sqr q2) _ (Mo A (w.heap.size+1)) wS HSS.out.2.2.2.1).mono ?_
  rintro e w' ⟨rfl,rfl⟩
  obtain⟨c0,c1,f0,f1⟩:=HV.out.2.2.2 wS HSS.out.2.2.1
  obtain⟨g0,g1⟩:=HG.out
  clear k0 k1 l0 l1
  have hend:∃ u,Ending.returned (.tuple #[.agg #[.pointer (some ⟨mx,0,none⟩),.pointer (some ⟨m5,0,none⟩)],.bool true])=.returned (.tuple #[u,.bool true])∧CQ (rt z) u ((wS.setCell ⟨w.heap.size+1,0,none⟩ (.pointer (some ⟨mx,0,none⟩))).setCell ⟨w.heap.size+1,1,none⟩ (.pointer (some ⟨m5,0,none⟩))) A∧Below w.heap.size w ((wS.setCell ⟨w.heap.size+1,0,none⟩ (.pointer (some ⟨mx,0,none⟩))).setCell ⟨w.heap.size+1,1,none⟩ (.pointer (some ⟨m5,0,none⟩))):=by
   obtain⟨u,h1,h2,h3⟩:=put_c (a:=sqr q2) (b:=(sqr q3)) (n:=w.heap.size+1) (HV.out.2.1.trans (HSS.out.2.2.1.mono HV.out.2.1.size)) HSS.out.2.2.2.1 HSS.out.2.2.2.2 (Nat.le_succ _)
   cases h1
   refine⟨_,rfl,?_,h2⟩
   have hrt:=H14.out.2.2.2.2
   rw[if_neg him] at hrt
   rw[hrt]
   exact h3
  have HE:=Lib.hid hend
  clear hend
  by_cases hx0:sqr q2=0
  ·have e9:(sqr q2).num=0:=by rw[hx0]; rfl
   go_wp2_with fail
   have hy0:0≤(sqr q3):=by
    have hk:=H14.out.2.2.2.1.2
    rw[if_neg him,hx0] at hk
    exact hk.elim (fun h=>absurd h Rat.lt_irrefl) (fun h=>h.2)
   have hsy:=sign_ge0 hy0
   refine(RSign_any (sqr q3) _ (Mo A (w.heap.size+1)) wS HSS.out.2.2.2.2).mono ?_
   rintro e w' ⟨rfl,rfl⟩
   go_wp2_with fail
   refine bodyPost_ret (v:=.tuple #[.agg #[.pointer (some ⟨mx,0,none⟩),.pointer (some ⟨m5,0,none⟩)],.bool true]) (by simp[results,Tryz.results112,go_sem,c0,c1]) rfl ?_
   obtain⟨u,h1,h2,h3⟩:=HE.out
   exact⟨h3,fun _=>⟨u,h1,h2⟩,fun h=>absurd H14.out.1 h⟩
  ·have e9:(sqr q2).num≠0:=fun h=>hx0 (Rat.num_eq_zero.1 h)
   go_wp2_with fail
   refine bodyPost_ret (v:=.tuple #[.agg #[.pointer (some ⟨mx,0,none⟩),.pointer (some ⟨m5,0,none⟩)],.bool true]) (by simp[results,Tryz.results112,go_sem,c0,c1]) rfl ?_
   obtain⟨u,h1,h2,h3⟩:=HE.out
   exact⟨h3,fun _=>⟨u,h1,h2⟩,fun h=>absurd H14.out.1 h⟩
end Go.Proofs.YtjlhiaafnpompaaGreat
namespace Go.Proofs.YtjlhiaafnpompaaGreat
open Go.RowKit Tr
theorem ZL_rt{z:QC}{k:Nat}(h:ZL z k):ZL (rt z) (5*k+5):=by
 by_cases hq:HasQ z
 ·obtain⟨h1,h2,h3⟩:=rt_prog_iff.1 hq
  have e:=(rt_eq (rt_prog (sqr_ok h1) (sqr_ok h2) (sqr_ok h3))).2
  have l1:RL (sqr (nm z)) (k+k+(k+k)+1):=RL_sqr (RL_add (RL_mul h.1 h.1) (RL_mul h.2 h.2)) (by omega)
  have lh:RL (1 / 2:Rat) 1:=by rw[←half_eq]; exact RL_divInt (by decide) (words_length_le (by decide)) (words_length_le (by decide))
  have l2:=RL_sqr (RL_mul (RL_add l1 h.1) lh) (by omega)
  have l3:=RL_sqr (RL_mul (RL_sub l1 h.1) lh) (by omega)
  rw[e]
  refine⟨l2.mono (by omega),?_⟩
  simp only
  split
  ·exact(RL_neg l3).mono (by omega)
  ·exact l3.mono (by omega)
 ·have e:rt z=⟨0,0⟩:=by unfold rt; rw[dif_neg hq]
  rw[e]
  exact⟨(RL_i64 0 (by decide) (by decide)).mono (by omega),(RL_i64 0 (by decide) (by decide)).mono (by omega)⟩
theorem pSqrt(z:QC)(hz:ZL z 1000000)(h:HasQ z):SpecC Tryz.prog true 112 [Q1 z] (.tup [Q1 (rt z),.c (gl (.bool true))]) :=
 spec1 eo112 fun w A u hR _ hu=>(sqrt_any z u A w (cq_iff.1 hu) (hR rfl) _ hz (Nat.le_refl _)).mono fun e w' ⟨h1,h2,_⟩=>by
  obtain⟨v,h3,h4⟩:=h2 h
  exact⟨_,h3,⟨[v,.bool true],rfl,cq_iff.2 h4,rfl,trivial⟩,h1⟩
theorem pSqrtC(z r:QC)(hz:ZL z 1000000)(h:r*r=z∧(0<r.re∨r.re=0∧0≤r.im)):SpecC Tryz.prog true 112 [Q1 z] (.tup [Q1 r,.c (gl (.bool true))]):=by
 have e:=rt_eq (z:=z) (r:=r) h
 have:=pSqrt z hz e.1
 rwa[e.2] at this
theorem pSqrtN(z:QC)(hz:ZL z 1000000)(h:¬HasQ z):SpecC Tryz.prog true 112 [Q1 z] (.tup [.row [gl .nilp,gl .nilp],.c (gl (.bool false))]) :=
 spec1 eo112 fun w A u hR _ hu=>(sqrt_any z u A w (cq_iff.1 hu) (hR rfl) _ hz (Nat.le_refl _)).mono fun e w' ⟨h1,_,h3⟩ =>
  ⟨_,h3 h,(FV.val_ok (u:=.tuple #[.agg #[.pointer none,.pointer none],.bool false]) (by kernel_rfl)).2 rfl,h1⟩
structure RawM where
 a:RawG
 b:RawG
 c:RawG
 d:RawG
 t:Bool
def RawM.val(m:RawM):Value:=.agg (m.a.vals++m.b.vals++m.c.vals++m.d.vals++[Value.bool m.t]).toArray
theorem ite_both{α:Type}{p q:Prop}[Decidable p][Decidable q](a b:α):(if p then(if q then a else b) else b)=if p∧q then a else b:=by
 by_cases hp:p<;>by_cases hq:q<;>simp[hp,hq]
set_option maxRecDepth 100000 in
theorem run_eql_rm(w:World)(p q:RawM)(r:Bool)(hr:r=true↔p=q):(binOp .eql 29 p.val q.val).run Tryz.prog w=.ok (.bool r) w:=by
 obtain⟨⟨i1,i2,i3,i4,x1,x2,x3,x4⟩,⟨i5,i6,i7,i8,x5,x6,x7,x8⟩,⟨j1,j2,j3,j4,x9,x10,x11,x12⟩,⟨j5,j6,j7,j8,x13,x14,x15,x16⟩,t⟩:=p
 obtain⟨⟨k1,k2,k3,k4,y1,y2,y3,y4⟩,⟨k5,k6,k7,k8,y5,y6,y7,y8⟩,⟨l1,l2,l3,l4,y9,y10,y11,y12⟩,⟨l5,l6,l7,l8,y13,y14,y15,y16⟩,u⟩:=q
 simp only[RawM.val,RawG.vals,List.cons_append,List.nil_append]
 simp only[RawM.mk.injEq,RawG.mk.injEq,and_assoc] at hr
 go_simp
 simp only[toL_iff]
 cases r
 ·have hn:=mt hr.2 Bool.false_ne_true
  clear hr
  simp only[ite_both]
  rw[if_neg]
  rintro⟨rfl,rfl,rfl,rfl,rfl,rfl,rfl,rfl,rfl,rfl,rfl,rfl,rfl,rfl,rfl,rfl,rfl,rfl,rfl,rfl,rfl,rfl,rfl,rfl,rfl,rfl,rfl,rfl,rfl,rfl,rfl,rfl,rfl⟩
  exact hn (by simp)
 ·obtain⟨rfl,rfl,rfl,rfl,rfl,rfl,rfl,rfl,rfl,rfl,rfl,rfl,rfl,rfl,rfl,rfl,rfl,rfl,rfl,rfl,rfl,rfl,rfl,rfl,rfl,rfl,rfl,rfl,rfl,rfl,rfl,rfl,rfl⟩:=hr.1 rfl
  simp
def bM{L:List GF}(x y:AR)(p q:RawM)(r:Bool)(hr:r=true↔p=q)(hx:x.gv L=some p.val:=by kernel_rfl)(hy:y.gv L=some q.val:=by kernel_rfl):GB Tryz.prog L :=
 gb .eql 29 x y (.lit (.bool r)) (agg_eql (by kernel_rfl) (fun w=>run_eql_rm w p q r hr)) hx hy rfl
theorem mk_inj{a b c d a' b' c' d':QC}{t:Bool}:(a=a'∧b=b'∧c=c'∧d=d')↔(⟨rawQ a,rawQ b,rawQ c,rawQ d,t⟩:RawM)=⟨rawQ a',rawQ b',rawQ c',rawQ d',t⟩:=by
 simp only[RawM.mk.injEq,rawQ_inj,and_true]
end Go.Proofs.YtjlhiaafnpompaaGreat
namespace Go.Proofs.YtjlhiaafnpompaaGreat
open Go.RowKit Tr
set_option maxRecDepth 100000 in
theorem NAdd_any(a b c d:Rat)(v v':Value)(A:Nat→Prop)(w:World)(hv:NumO a b v w A)(hv':NumO c d v' w A)(hA:Rcv A w)(k l:Nat)(hla:RL a k)(hlb:RL b k)(hlc:RL c l)(hld:RL d l)(hkl:k+l+(k+l)<137438953472) :
  Calls Tryz.prog 53 #[v,v'] w fun e w'=>∃ u,e=.returned u∧Below w.heap.size w w'∧NumO (a+c) (b+d) u w' A:=by
 obtain⟨u1,u2,rfl,h1,h2⟩:=hv
 obtain⟨u3,u4,rfl,h3,h4⟩:=hv'
 obtain⟨W,HV,hs1,hs2,e0,e1,e2,e3⟩:=box_two w u1 u2 u3 u4 A hA
 have h1:=new_more (RatO.keeps a) (n:=w.heap.size+2) HV.out.2.1 (by omega) h1
 have h2:=new_more (RatO.keeps b) (n:=w.heap.size+2) HV.out.2.1 (by omega) h2
 have h3:=new_more (RatO.keeps c) (n:=w.heap.size+2) HV.out.2.1 (by omega) h3
 have h4:=new_more (RatO.keeps d) (n:=w.heap.size+2) HV.out.2.1 (by omega) h4
 clear hA
 go_enter Tryz.func53,Tryz.ntmps53
 go_wp2_with fail
 rw[←HV.out.1]
 refine wp_region_inv [(.new zR,[]),(.lit,[]),(.lit,[]),(.val,[]),(.lit,[]),(.lit,[]),(.val,[]),(.on 0 zR,[3,6]),(.new zR,[]),(.lit,[]),(.lit,[]),(.val,[]),(.lit,[]),(.lit,[]),(.val,[]),(.on 8 zR,[11,14])]
  (pickF [(3,FactU (Mo A (w.heap.size+2)) (RatP (a))),(6,FactU (Mo A (w.heap.size+2)) (RatP (c))),(7,FactU (Mo A (w.heap.size+2)) (RatP (a+c))),(11,FactU (Mo A (w.heap.size+2)) (RatP (b))),(14,FactU (Mo A (w.heap.size+2)) (RatP (d))),(15,FactU (Mo A (w.heap.size+2)) (RatP (b+d)))]) (by kernel_rfl) ?_ ?_ (by simp[noW_zRat]) (by simp) (by kernel_rfl)
 ·exact keeps_pick (by simp only[List.mem_cons,List.not_mem_nil,or_false]; rintro p (rfl|rfl|rfl|rfl|rfl|rfl)<;>exact FactU.keeps (RatP.keeps _))
 ·refine⟨fun f w1=>by go_simp,?_⟩
  refine⟨_,fun f w1 h1=>by(have d0:=ct h1 hs1 e0; have d1:=ct h1 hs1 e1; have d2:=ct h1 hs2 e2; have d3:=ct h1 hs2 e3; go_simp; rfl),?_⟩
  refine⟨_,fun f w1 h1=>by(have d0:=ct h1 hs1 e0; have d1:=ct h1 hs1 e1; have d2:=ct h1 hs2 e2; have d3:=ct h1 hs2 e3; go_simp; rfl),?_⟩
  simp only[Act.put,nrA,nrB,nrC,Nat.reduceAdd]
  refine⟨fun f w1 A1 k1 hA hN hd K hK=>by
   go_simp
   refine(erat_any a u1 (Un (Mo A (w.heap.size+2)) A1) w1 (later (FactU.keeps (RatO.keeps _)) h1 k1 hN) (rcv_un (HV.out.2.2.1.below (br.drew.trans k1)) hA)).mono ?_
   rintro e w' ⟨v,rfl,hb,hr⟩
   exact hK _ _ hb hr,?_⟩
  refine⟨_,fun f w1 h1=>by(have d0:=ct h1 hs1 e0; have d1:=ct h1 hs1 e1; have d2:=ct h1 hs2 e2; have d3:=ct h1 hs2 e3; go_simp; rfl),?_⟩
  refine⟨_,fun f w1 h1=>by(have d0:=ct h1 hs1 e0; have d1:=ct h1 hs1 e1; have d2:=ct h1 hs2 e2; have d3:=ct h1 hs2 e3; go_simp; rfl),?_⟩
  simp only[Act.put,nrA,nrB,nrC,Nat.reduceAdd]
  refine⟨fun f w1 A1 k1 hA hN hd K hK=>by
   go_simp
   refine(erat_any c u3 (Un (Mo A (w.heap.size+2)) A1) w1 (later (FactU.keeps (RatO.keeps _)) h3 k1 hN) (rcv_un (HV.out.2.2.1.below (br.drew.trans k1)) hA)).mono ?_
   rintro e w' ⟨v,rfl,hb,hr⟩
   exact hK _ _ hb hr,?_⟩
  simp only[Act.put,nrA,nrB,nrC,Nat.reduceAdd]
  refine⟨fun f w1 A1 m1 k1 hA hN hAm hm0 e hz hd K hK=>by
   simp only[e] at hK ⊢
   have i1:RatP (a) (f 3) w1 (Un (Mo A (w.heap.size+2)) A1):=hd 3 (by simp)
   have i2:RatP (c) (f 6) w1 (Un (Mo A (w.heap.size+2)) A1):=hd 6 (by simp)
   go_simp
   refine(RAdd_any m1 _ _ _ _ _ _ w1 hz (by decide) noW_zRat i1 i2 (k) (l) hla hlc (by omega)).mono ?_
   rintro e w' ⟨rfl,hp⟩
   exact hK _ w' hp.1 (hp.ratU (HV.out.2.2.1.below (br.drew.trans k1)) hA hm0 (fun b hb=>HV.out.2.2.1.lt hb)),?_⟩
  refine⟨fun f w1=>by go_simp,?_⟩
  refine⟨_,fun f w1 h1=>by(have d0:=ct h1 hs1 e0; have d1:=ct h1 hs1 e1; have d2:=ct h1 hs2 e2; have d3:=ct h1 hs2 e3; go_simp; rfl),?_⟩
  refine⟨_,fun f w1 h1=>by(have d0:=ct h1 hs1 e0; have d1:=ct h1 hs1 e1; have d2:=ct h1 hs2 e2; have d3:=ct h1 hs2 e3; go_simp; rfl),?_⟩
  simp only[Act.put,nrA,nrB,nrC,Nat.reduceAdd]
  refine⟨fun f w1 A1 k1 hA hN hd K hK=>by
   go_simp
   refine(erat_any b u2 (Un (Mo A (w.heap.size+2)) A1) w1 (later (FactU.keeps (RatO.keeps _)) h2 k1 hN) (rcv_un (HV.out.2.2.1.below (br.drew.trans k1)) hA)).mono ?_
   rintro e w' ⟨v,rfl,hb,hr⟩
   exact hK _ _ hb hr,?_⟩
  refine⟨_,fun f w1 h1=>by(have d0:=ct h1 hs1 e0; have d1:=ct h1 hs1 e1; have d2:=ct h1 hs2 e2; have d3:=ct h1 hs2 e3; go_simp; rfl),?_⟩
  refine⟨_,fun f w1 h1=>by(have d0:=ct h1 hs1 e0; have d1:=ct h1 hs1 e1; have d2:=ct h1 hs2 e2; have d3:=ct h1 hs2 e3; go_simp; rfl),?_⟩
  simp only[Act.put,nrA,nrB,nrC,Nat.reduceAdd]
  refine⟨fun f w1 A1 k1 hA hN hd K hK=>by
   go_simp
   refine(erat_any d u4 (Un (Mo A (w.heap.size+2)) A1) w1 (later (FactU.keeps (RatO.keeps _)) h4 k1 hN) (rcv_un (HV.out.2.2.1.below (br.drew.trans k1)) hA)).mono ?_
   rintro e w' ⟨v,rfl,hb,hr⟩
   exact hK _ _ hb hr,?_⟩
  simp only[Act.put,nrA,nrB,nrC,Nat.reduceAdd]
  refine⟨fun f w1 A1 m1 k1 hA hN hAm hm0 e hz hd K hK=>by
   simp only[e] at hK ⊢
   have i1:RatP (b) (f 11) w1 (Un (Mo A (w.heap.size+2)) A1):=hd 11 (by simp)
   have i2:RatP (d) (f 14) w1 (Un (Mo A (w.heap.size+2)) A1):=hd 14 (by simp)
   go_simp
   refine(RAdd_any m1 _ _ _ _ _ _ w1 hz (by decide) noW_zRat i1 i2 (k) (l) hlb hld (by omega)).mono ?_
   rintro e w' ⟨rfl,hp⟩
   exact hK _ w' hp.1 (hp.ratU (HV.out.2.2.1.below (br.drew.trans k1)) hA hm0 (fun b hb=>HV.out.2.2.1.lt hb)),?_⟩
  intro f w1 k1 hF
  have i0:RatP (a) (f 3) w1 ((Mo A (w.heap.size+2))):=FactU.done (RatP.keeps _) hF.1.1.1.1.1.2
  have i1:RatP (c) (f 6) w1 ((Mo A (w.heap.size+2))):=FactU.done (RatP.keeps _) hF.1.1.1.1.2
  have i2:RatP (a+c) (f 7) w1 ((Mo A (w.heap.size+2))):=FactU.done (RatP.keeps _) hF.1.1.1.2
  have i3:RatP (b) (f 11) w1 ((Mo A (w.heap.size+2))):=FactU.done (RatP.keeps _) hF.1.1.2
  have i4:RatP (d) (f 14) w1 ((Mo A (w.heap.size+2))):=FactU.done (RatP.keeps _) hF.1.2
  have i5:RatP (b+d) (f 15) w1 ((Mo A (w.heap.size+2))):=FactU.done (RatP.keeps _) hF.2
  clear hF
  simp only[Act.put,nrA,nrB,nrC]
  generalize f 3=v0 at *
  generalize f 6=v1 at *
  generalize f 7=v2 at *
  generalize f 11=v3 at *
  generalize f 14=v4 at *
  generalize f 15=v5 at *
  have hb1:Below W.heap.size W w1:=br.drew.trans k1
  obtain⟨c0,c1,f0,f1⟩:=HV.out.2.2.2 w1 hb1
  have hbw:=HV.out.2.1.trans (hb1.mono HV.out.2.1.size)
  have HE:=Lib.hid (And.intro i2 (And.intro i5 hbw))
  obtain⟨m1,rfl⟩:=i2.shape
  obtain⟨m2,rfl⟩:=i5.shape
  clear e0 e1 e2 e3 h1 h2 h3 h4 i0 i1 i2 i3 i4 i5 hbw hb1 k1
  go_wp2_with fail
  refine bodyPost_ret (v:=.agg #[.pointer (some ⟨m1,0,none⟩),.pointer (some ⟨m2,0,none⟩)]) (by simp[results,Tryz.results53,go_sem,c0,c1]) rfl ?_
  exact put_num HE.out.2.2 HE.out.1 HE.out.2.1 (by omega)
theorem pNAdd(x y:QC){m l:Nat}(hx:ZL x m)(hy:ZL y l)(hb:m+l+(m+l)<137438953472):SpecC Tryz.prog true 53 [N1 x,N1 y] (.r (N1 (x+y))) :=
 spec2 eo53 fun w A u v hR _ hu hv=>(NAdd_any x.re x.im y.re y.im u v A w (cn_iff.1 hu) (cn_iff.1 hv) (hR rfl) m l hx.1 hx.2 hy.1 hy.2 hb).mono fun e w' ⟨z,h1,h2,h3⟩=>⟨z,h1,cn_iff.2 h3,h2⟩
end Go.Proofs.YtjlhiaafnpompaaGreat
