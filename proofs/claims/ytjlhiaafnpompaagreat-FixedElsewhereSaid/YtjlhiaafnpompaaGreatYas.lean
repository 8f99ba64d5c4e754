/- Laws for the walk. -/
import Derived.Test.YtjlhiaafnpompaaGreatYar
set_option linter.unusedVariables false
set_option maxHeartbeats 4000000
namespace Go.Proofs.YtjlhiaafnpompaaGreat
open Go.RowKit Tr
def RatB(base:Nat)(q:Rat):Fact:=fun v w A=>∃ m C,v=.pointer (some ⟨m,0,none⟩)∧base≤m∧¬A m∧w.heap[m]?=some (.cells C 129 (0,0))∧C.size=4∧NoW (.cells C 129 (0,0))∧RatP q v w A
theorem RatB.keeps(base:Nat)(q:Rat):(RatB base q).Keeps:=by
 intro v w w' A A' hs hk ⟨m,C,h1,h2,h3,h4,h5,h6,h7⟩
 obtain⟨k1,k2⟩:=hk m (Array.getElem?_eq_some_iff.1 h4).1 h3
 exact⟨m,C,h1,h2,k2,k1.trans h4,h5,h6,RatP.keeps q _ _ _ _ _ hs hk h7⟩
theorem PutR.ratB{m base:Nat}{q:Rat}{w w':World}(h:PutR m q w w'){A0 A:Nat→Prop}(hA0:Rcv A0 w)(hA:Rcv A w)(hm:base≤m)(h0:∀ b,A0 b→b<base):FactU A0 (RatB base q) (.pointer (some ⟨m,0,none⟩)) w' (fun b=>A b∧b≠m):=by
 have hr:=h.ratU hA0 hA hm h0
 obtain⟨_,s1,s2,h2,h3,h4⟩:=h
 refine⟨m,_,rfl,hm,?_,h2,rfl,?_,hr⟩
 ·rintro(h|h)
  ·exact h.2 rfl
  ·have:=h0 m h; omega
 ·obtain⟨p1,c1,rfl,_⟩:=h3
  obtain⟨p2,c2,rfl,_⟩:=h4
  intro cs T fr e i k x
  cases e
  rcases i with _|_|_|_|i<;>simp
def CP(a b:Rat):Fact:=fun v w A=>∃ u1 u2,v=.agg #[u1,u2]∧RatP a u1 w A∧RatP b u2 w A
theorem CP.keeps(a b:Rat):(CP a b).Keeps:=fun v w w' A A' hs hk ⟨u1,u2,h1,h2,h3⟩=>⟨u1,u2,h1,RatP.keeps a _ _ _ _ _ hs hk h2,RatP.keeps b _ _ _ _ _ hs hk h3⟩
theorem CP.below{a b:Rat}{v:Value}{w w':World}{A:Nat→Prop}(h:CP a b v w A)(hb:Below w.heap.size w w'):CP a b v w' A:=Fact.Keeps.below (CP.keeps a b) hb h
theorem xbox_one(w:World)(u1 u2:Value)(A:Nat→Prop)(hA:Rcv A w) :
  ∃ W,Hid (W=(w.alloc (.cells #[u1,u2] 76)).alloc (.cells #[.pointer none,.pointer none] 76)∧Below w.heap.size w W∧Rcv (Mo A (w.heap.size+1)) W∧∀ w1,Below W.heap.size W w1→w1.cell? ⟨w.heap.size+1,0,none⟩=some (.pointer none)∧w1.cell? ⟨w.heap.size+1,1,none⟩=some (.pointer none)∧w1.frozen? ⟨w.heap.size+1,0,none⟩=false∧w1.frozen? ⟨w.heap.size+1,1,none⟩=false)∧w.heap.size<W.heap.size∧W.cell? ⟨w.heap.size,0,none⟩=some u1∧W.cell? ⟨w.heap.size,1,none⟩=some u2:=by
 have hb1:=(Below.refl (w.alloc (.cells #[u1,u2] 76)).heap.size (w.alloc (.cells #[u1,u2] 76))).alloc (Nat.le_refl _) (.cells #[.pointer none,.pointer none] 76)
 have hb:Below w.heap.size w ((w.alloc (.cells #[u1,u2] 76)).alloc (.cells #[.pointer none,.pointer none] 76)):=(br.alloc (Nat.le_refl _) _).alloc (by simp) _
 obtain⟨e0,e1,_⟩:=new_two w u1 u2 76 hb1
 have hz:(w.alloc (.cells #[u1,u2] 76)).heap.size=w.heap.size+1:=by simp
 have hn:=heap_alloc_new (w.alloc (.cells #[u1,u2] 76)) (.cells #[.pointer none,.pointer none] 76 (0,0))
 rw[hz] at hn
 refine⟨_,Lib.hid ⟨rfl,hb,fun b h=>h.elim (fun h=>(hA.below hb) b h) (fun h=>by subst h; exact⟨_,hn,noW_num _ _ ⟨_,rfl⟩ ⟨_,rfl⟩ _⟩),fun w1 h=>?_⟩,by simp; omega,e0,e1⟩
 have:=new_two (w.alloc (.cells #[u1,u2] 76)) (.pointer none) (.pointer none) 76 h
 rw[hz] at this
 exact this
theorem xbox_two(w:World)(u1 u2 u3 u4:Value)(A:Nat→Prop)(hA:Rcv A w) :
  ∃ W,Hid (W=((w.alloc (.cells #[u1,u2] 76)).alloc (.cells #[u3,u4] 76)).alloc (.cells #[.pointer none,.pointer none] 76)∧Below w.heap.size w W∧Rcv (Mo A (w.heap.size+2)) W∧∀ w1,Below W.heap.size W w1→w1.cell? ⟨w.heap.size+2,0,none⟩=some (.pointer none)∧w1.cell? ⟨w.heap.size+2,1,none⟩=some (.pointer none)∧w1.frozen? ⟨w.heap.size+2,0,none⟩=false∧w1.frozen? ⟨w.heap.size+2,1,none⟩=false)∧w.heap.size<W.heap.size∧w.heap.size+1<W.heap.size∧W.cell? ⟨w.heap.size,0,none⟩=some u1∧W.cell? ⟨w.heap.size,1,none⟩=some u2∧W.cell? ⟨w.heap.size+1,0,none⟩=some u3∧W.cell? ⟨w.heap.size+1,1,none⟩=some u4:=by
 obtain⟨w1,hw1⟩:∃ w1,w1=w.alloc (.cells #[u1,u2] 76):=⟨_,rfl⟩
 have hz1:w1.heap.size=w.heap.size+1:=by rw[hw1]; simp
 obtain⟨w2,hw2⟩:∃ w2,w2=w1.alloc (.cells #[u3,u4] 76):=⟨_,rfl⟩
 have hz2:w2.heap.size=w.heap.size+2:=by rw[hw2]; simp[hz1]
 have hb01:Below w.heap.size w w1:=by rw[hw1]; exact br.alloc (Nat.le_refl _) _
 have hb12:Below w1.heap.size w1 w2:=by rw[hw2]; exact br.alloc (Nat.le_refl _) _
 have hb23:Below w2.heap.size w2 (w2.alloc (.cells #[.pointer none,.pointer none] 76)):=br.alloc (Nat.le_refl _) _
 have hb13:=hb12.trans (hb23.mono hb12.size)
 have hb:Below w.heap.size w (w2.alloc (.cells #[.pointer none,.pointer none] 76)):=hb01.trans (hb13.mono hb01.size)
 obtain⟨e0,e1,_⟩:=new_two w u1 u2 76 (by rw[←hw1]; exact hb13)
 obtain⟨e2,e3,_⟩:=new_two w1 u3 u4 76 (by rw[←hw2]; exact hb23)
 have hn:=heap_alloc_new w2 (.cells #[.pointer none,.pointer none] 76 (0,0))
 rw[hz2] at hn
 rw[hz1] at e2 e3
 refine⟨w2.alloc (.cells #[.pointer none,.pointer none] 76),Lib.hid ⟨by rw[hw2,hw1],hb,fun b h=>h.elim (fun h=>(hA.below hb) b h) (fun h=>by subst h; exact⟨_,hn,noW_num _ _ ⟨_,rfl⟩ ⟨_,rfl⟩ _⟩),fun w1 h=>?_⟩,by simp; omega,by simp; omega,e0,e1,e2,e3⟩
 have:=new_two w2 (.pointer none) (.pointer none) 76 h
 rw[hz2] at this
 exact this
theorem put_c{a b:Rat}{v1 v2:Value}{w w1:World}{A:Nat→Prop}{n:Nat}(hb:Below w.heap.size w w1)(h1:RatP a v1 w1 (Mo A n))(h2:RatP b v2 w1 (Mo A n))(hn:w.heap.size≤n) :
  ∃ u,Ending.returned (.agg #[v1,v2])=.returned u∧Below w.heap.size w ((w1.setCell ⟨n,0,none⟩ v1).setCell ⟨n,1,none⟩ v2)∧CP a b u ((w1.setCell ⟨n,0,none⟩ v1).setCell ⟨n,1,none⟩ v2) A:=by
 refine⟨_,rfl,(hb.setCell (p:=⟨n,0,none⟩) hn _).setCell (p:=⟨n,1,none⟩) hn _,v1,v2,rfl,?_,?_⟩
 ·exact more_less _ (RatP.keeps a) (keep_set _ (RatP.keeps a) (keep_set _ (RatP.keeps a) h1))
 ·exact more_less _ (RatP.keeps b) (keep_set _ (RatP.keeps b) (keep_set _ (RatP.keeps b) h2))
set_option maxRecDepth 100000 in
theorem XAdd_any(a b c d:Rat)(v v':Value)(A:Nat→Prop)(w:World)(hv:CP a b v w A)(hv':CP c d v' w A)(hA:Rcv A w)(k l:Nat)(hla:RL a k)(hlb:RL b k)(hlc:RL c l)(hld:RL d l)(hkl:k+l<137438953472) :
  Calls Tryz.prog 68 #[v,v'] w fun e w'=>∃ u,e=.returned u∧Below w.heap.size w w'∧CP (a+c) (b+d) u w' A:=by
 obtain⟨u1,u2,rfl,h1,h2⟩:=hv
 obtain⟨u3,u4,rfl,h3,h4⟩:=hv'
 obtain⟨W,HV,hs1,hs2,e0,e1,e2,e3⟩:=xbox_two w u1 u2 u3 u4 A hA
 have h1:=new_more (RatP.keeps a) (n:=w.heap.size+2) HV.out.2.1 (by omega) h1
 have h2:=new_more (RatP.keeps b) (n:=w.heap.size+2) HV.out.2.1 (by omega) h2
 have h3:=new_more (RatP.keeps c) (n:=w.heap.size+2) HV.out.2.1 (by omega) h3
 have h4:=new_more (RatP.keeps d) (n:=w.heap.size+2) HV.out.2.1 (by omega) h4
 clear hA
 go_enter Tryz.func68,Tryz.ntmps68
 go_wp2_with fail
 rw[←HV.out.1]
 refine wp_region_inv [(.new zR,[]),(.lit,[]),(.lit,[]),(.lit,[]),(.lit,[]),(.on 0 zR,[]),(.new zR,[]),(.lit,[]),(.lit,[]),(.lit,[]),(.lit,[]),(.on 6 zR,[])]
  (pickF [(5,FactU (Mo A (w.heap.size+2)) (RatP (a+c))),(11,FactU (Mo A (w.heap.size+2)) (RatP (b+d)))]) (by kernel_rfl) ?_ ?_ (by simp[noW_zRat]) (by simp) (by kernel_rfl)
 ·exact keeps_pick (by simp only[List.mem_cons,List.not_mem_nil,or_false]; rintro p (rfl|rfl)<;>first|exact FactU.keeps (RatP.keeps _)|exact FactU.keeps (RatB.keeps _ _)|exact FactU.keeps (CP.keeps _ _))
 ·refine⟨fun f w1=>by go_simp,?_⟩
  refine⟨_,fun f w1 h1=>by(have d0:=ct h1 hs1 e0; have d1:=ct h1 hs1 e1; have d2:=ct h1 hs2 e2; have d3:=ct h1 hs2 e3; go_simp; rfl),?_⟩
  refine⟨_,fun f w1 h1=>by(have d0:=ct h1 hs1 e0; have d1:=ct h1 hs1 e1; have d2:=ct h1 hs2 e2; have d3:=ct h1 hs2 e3; go_simp; rfl),?_⟩
  refine⟨_,fun f w1 h1=>by(have d0:=ct h1 hs1 e0; have d1:=ct h1 hs1 e1; have d2:=ct h1 hs2 e2; have d3:=ct h1 hs2 e3; go_simp; rfl),?_⟩
  refine⟨_,fun f w1 h1=>by(have d0:=ct h1 hs1 e0; have d1:=ct h1 hs1 e1; have d2:=ct h1 hs2 e2; have d3:=ct h1 hs2 e3; go_simp; rfl),?_⟩
  simp only[Act.put,nrA,nrB,nrC,Nat.reduceAdd]
  refine⟨fun f w1 A1 m1 k1 hA hN hAm hm0 e hz hd K hK=>by
   simp only[e] at hK ⊢
   go_simp
   refine(RAdd_any m1 _ _ _ _ _ _ w1 hz (by decide) noW_zRat (later (FactU.keeps (RatP.keeps _)) h1 k1 hN) (later (FactU.keeps (RatP.keeps _)) h3 k1 hN) (k) (l) hla hlc (by omega)).mono ?_
   rintro e w' ⟨rfl,hp⟩
   exact hK _ w' hp.1 (hp.ratU (HV.out.2.2.1.below (br.drew.trans k1)) hA hm0 (fun b hb=>HV.out.2.2.1.lt hb)),?_⟩
  refine⟨fun f w1=>by go_simp,?_⟩
  refine⟨_,fun f w1 h1=>by(have d0:=ct h1 hs1 e0; have d1:=ct h1 hs1 e1; have d2:=ct h1 hs2 e2; have d3:=ct h1 hs2 e3; go_simp; rfl),?_⟩
  refine⟨_,fun f w1 h1=>by(have d0:=ct h1 hs1 e0; have d1:=ct h1 hs1 e1; have d2:=ct h1 hs2 e2; have d3:=ct h1 hs2 e3; go_simp; rfl),?_⟩
  refine⟨_,fun f w1 h1=>by(have d0:=ct h1 hs1 e0; have d1:=ct h1 hs1 e1; have d2:=ct h1 hs2 e2; have d3:=ct h1 hs2 e3; go_simp; rfl),?_⟩
  refine⟨_,fun f w1 h1=>by(have d0:=ct h1 hs1 e0; have d1:=ct h1 hs1 e1; have d2:=ct h1 hs2 e2; have d3:=ct h1 hs2 e3; go_simp; rfl),?_⟩
  simp only[Act.put,nrA,nrB,nrC,Nat.reduceAdd]
  refine⟨fun f w1 A1 m1 k1 hA hN hAm hm0 e hz hd K hK=>by
   simp only[e] at hK ⊢
   go_simp
   refine(RAdd_any m1 _ _ _ _ _ _ w1 hz (by decide) noW_zRat (later (FactU.keeps (RatP.keeps _)) h2 k1 hN) (later (FactU.keeps (RatP.keeps _)) h4 k1 hN) (k) (l) hlb hld (by omega)).mono ?_
   rintro e w' ⟨rfl,hp⟩
   exact hK _ w' hp.1 (hp.ratU (HV.out.2.2.1.below (br.drew.trans k1)) hA hm0 (fun b hb=>HV.out.2.2.1.lt hb)),?_⟩
  intro f w1 k1 hF
  have i0:(RatP (a+c)) (f 5) w1 ((Mo A (w.heap.size+2))):=FactU.done (RatP.keeps _) hF.1.2
  have i1:(RatP (b+d)) (f 11) w1 ((Mo A (w.heap.size+2))):=FactU.done (RatP.keeps _) hF.2
  clear hF
  simp only[Act.put,nrA,nrB,nrC]
  generalize f 5=vi0 at *
  generalize f 11=vi1 at *
  have hbw1:Below W.heap.size W w1:=br.drew.trans k1
  obtain⟨c0,c1,f0,f1⟩:=HV.out.2.2.2 w1 hbw1
  have hbw:=HV.out.2.1.trans (hbw1.mono HV.out.2.1.size)
  have HE:=Lib.hid (And.intro i0 (And.intro i1 hbw))
  obtain⟨m1,rfl⟩:=i0.shape
  obtain⟨m2,rfl⟩:=i1.shape
  clear e0 e1 e2 e3 h1 h2 h3 h4 i0 i1 hbw hbw1 k1
  go_wp2_with fail
  refine bodyPost_ret (v:=.agg #[.pointer (some ⟨m1,0,none⟩),.pointer (some ⟨m2,0,none⟩)]) (by simp[results,Tryz.results68,go_sem,c0,c1]) rfl ?_
  exact put_c HE.out.2.2 HE.out.1 HE.out.2.1 (by omega)
set_option maxRecDepth 100000 in
theorem XSub_any(a b c d:Rat)(v v':Value)(A:Nat→Prop)(w:World)(hv:CP a b v w A)(hv':CP c d v' w A)(hA:Rcv A w)(k l:Nat)(hla:RL a k)(hlb:RL b k)(hlc:RL c l)(hld:RL d l)(hkl:k+l<137438953472) :
  Calls Tryz.prog 45 #[v,v'] w fun e w'=>∃ u,e=.returned u∧Below w.heap.size w w'∧CP (a - c) (b - d) u w' A:=by
 obtain⟨u1,u2,rfl,h1,h2⟩:=hv
 obtain⟨u3,u4,rfl,h3,h4⟩:=hv'
 obtain⟨W,HV,hs1,hs2,e0,e1,e2,e3⟩:=xbox_two w u1 u2 u3 u4 A hA
 have h1:=new_more (RatP.keeps a) (n:=w.heap.size+2) HV.out.2.1 (by omega) h1
 have h2:=new_more (RatP.keeps b) (n:=w.heap.size+2) HV.out.2.1 (by omega) h2
 have h3:=new_more (RatP.keeps c) (n:=w.heap.size+2) HV.out.2.1 (by omega) h3
 have h4:=new_more (RatP.keeps d) (n:=w.heap.size+2) HV.out.2.1 (by omega) h4
 clear hA
 go_enter Tryz.func45,Tryz.ntmps45
 go_wp2_with fail
 rw[←HV.out.1]
 refine wp_region_inv [(.new zR,[]),(.lit,[]),(.lit,[]),(.lit,[]),(.lit,[]),(.on 0 zR,[]),(.new zR,[]),(.lit,[]),(.lit,[]),(.lit,[]),(.lit,[]),(.on 6 zR,[])]
  (pickF [(5,FactU (Mo A (w.heap.size+2)) (RatP (a - c))),(11,FactU (Mo A (w.heap.size+2)) (RatP (b - d)))]) (by kernel_rfl) ?_ ?_ (by simp[noW_zRat]) (by simp) (by kernel_rfl)
 ·exact keeps_pick (by simp only[List.mem_cons,List.not_mem_nil,or_false]; rintro p (rfl|rfl)<;>first|exact FactU.keeps (RatP.keeps _)|exact FactU.keeps (RatB.keeps _ _)|exact FactU.keeps (CP.keeps _ _))
 ·refine⟨fun f w1=>by go_simp,?_⟩
  refine⟨_,fun f w1 h1=>by(have d0:=ct h1 hs1 e0; have d1:=ct h1 hs1 e1; have d2:=ct h1 hs2 e2; have d3:=ct h1 hs2 e3; go_simp; rfl),?_⟩
  refine⟨_,fun f w1 h1=>by(have d0:=ct h1 hs1 e0; have d1:=ct h1 hs1 e1; have d2:=ct h1 hs2 e2; have d3:=ct h1 hs2 e3; go_simp; rfl),?_⟩
  refine⟨_,fun f w1 h1=>by(have d0:=ct h1 hs1 e0; have d1:=ct h1 hs1 e1; have d2:=ct h1 hs2 e2; have d3:=ct h1 hs2 e3; go_simp; rfl),?_⟩
  refine⟨_,fun f w1 h1=>by(have d0:=ct h1 hs1 e0; have d1:=ct h1 hs1 e1; have d2:=ct h1 hs2 e2; have d3:=ct h1 hs2 e3; go_simp; rfl),?_⟩
  simp only[Act.put,nrA,nrB,nrC,Nat.reduceAdd]
  refine⟨fun f w1 A1 m1 k1 hA hN hAm hm0 e hz hd K hK=>by
   simp only[e] at hK ⊢
   go_simp
   refine(RSub_any m1 _ _ _ _ _ _ w1 hz (by decide) noW_zRat (later (FactU.keeps (RatP.keeps _)) h1 k1 hN) (later (FactU.keeps (RatP.keeps _)) h3 k1 hN) (k) (l) hla hlc (by omega)).mono ?_
   rintro e w' ⟨rfl,hp⟩
   exact hK _ w' hp.1 (hp.ratU (HV.out.2.2.1.below (br.drew.trans k1)) hA hm0 (fun b hb=>HV.out.2.2.1.lt hb)),?_⟩
  refine⟨fun f w1=>by go_simp,?_⟩
  refine⟨_,fun f w1 h1=>by(have d0:=ct h1 hs1 e0; have d1:=ct h1 hs1 e1; have d2:=ct h1 hs2 e2; have d3:=ct h1 hs2 e3; go_simp; rfl),?_⟩
  refine⟨_,fun f w1 h1=>by(have d0:=ct h1 hs1 e0; have d1:=ct h1 hs1 e1; have d2:=ct h1 hs2 e2; have d3:=ct h1 hs2 e3; go_simp; rfl),?_⟩
  refine⟨_,fun f w1 h1=>by(have d0:=ct h1 hs1 e0; have d1:=ct h1 hs1 e1; have d2:=ct h1 hs2 e2; have d3:=ct h1 hs2 e3; go_simp; rfl),?_⟩
  refine⟨_,fun f w1 h1=>by(have d0:=ct h1 hs1 e0; have d1:=ct h1 hs1 e1; have d2:=ct h1 hs2 e2; have d3:=ct h1 hs2 e3; go_simp; rfl),?_⟩
  simp only[Act.put,nrA,nrB,nrC,Nat.reduceAdd]
  refine⟨fun f w1 A1 m1 k1 hA hN hAm hm0 e hz hd K hK=>by
   simp only[e] at hK ⊢
   go_simp
   refine(RSub_any m1 _ _ _ _ _ _ w1 hz (by decide) noW_zRat (later (FactU.keeps (RatP.keeps _)) h2 k1 hN) (later (FactU.keeps (RatP.keeps _)) h4 k1 hN) (k) (l) hlb hld (by omega)).mono ?_
   rintro e w' ⟨rfl,hp⟩
   exact hK _ w' hp.1 (hp.ratU (HV.out.2.2.1.below (br.drew.trans k1)) hA hm0 (fun b hb=>HV.out.2.2.1.lt hb)),?_⟩
  intro f w1 k1 hF
  have i0:(RatP (a - c)) (f 5) w1 ((Mo A (w.heap.size+2))):=FactU.done (RatP.keeps _) hF.1.2
  have i1:(RatP (b - d)) (f 11) w1 ((Mo A (w.heap.size+2))):=FactU.done (RatP.keeps _) hF.2
  clear hF
  simp only[Act.put,nrA,nrB,nrC]
  generalize f 5=vi0 at *
  generalize f 11=vi1 at *
  have hbw1:Below W.heap.size W w1:=br.drew.trans k1
  obtain⟨c0,c1,f0,f1⟩:=HV.out.2.2.2 w1 hbw1
  have hbw:=HV.out.2.1.trans (hbw1.mono HV.out.2.1.size)
  have HE:=Lib.hid (And.intro i0 (And.intro i1 hbw))
  obtain⟨m1,rfl⟩:=i0.shape
  obtain⟨m2,rfl⟩:=i1.shape
  clear e0 e1 e2 e3 h1 h2 h3 h4 i0 i1 hbw hbw1 k1
  go_wp2_with fail
  refine bodyPost_ret (v:=.agg #[.pointer (some ⟨m1,0,none⟩),.pointer (some ⟨m2,0,none⟩)]) (by simp[results,Tryz.results45,go_sem,c0,c1]) rfl ?_
  exact put_c HE.out.2.2 HE.out.1 HE.out.2.1 (by omega)
set_option maxRecDepth 100000 in
theorem XScale_any(a b s:Rat)(v vs:Value)(A:Nat→Prop)(w:World)(hv:CP a b v w A)(hs:RatP s vs w A)(hA:Rcv A w)  (k l:Nat) (hla:RL a k) (hlb:RL b k) (hls:RL s l) (hkl:k+l<137438953472) :
  Calls Tryz.prog 82 #[v,vs] w fun e w'=>∃ u,e=.returned u∧Below w.heap.size w w'∧CP (a*s) (b*s) u w' A:=by
 obtain⟨u1,u2,rfl,h1,h2⟩:=hv
 obtain⟨W,HV,hs2,e0,e1⟩:=xbox_one w u1 u2 A hA
 have h1:=new_more (RatP.keeps a) (n:=w.heap.size+1) HV.out.2.1 (by omega) h1
 have h2:=new_more (RatP.keeps b) (n:=w.heap.size+1) HV.out.2.1 (by omega) h2
 have hs:=new_more (RatP.keeps s) (n:=w.heap.size+1) HV.out.2.1 (by omega) hs
 clear hA
 go_enter Tryz.func82,Tryz.ntmps82
 go_wp2_with fail
 rw[←HV.out.1]
 refine wp_region_inv [(.new zR,[]),(.lit,[]),(.lit,[]),(.lit,[]),(.on 0 zR,[]),(.new zR,[]),(.lit,[]),(.lit,[]),(.lit,[]),(.on 5 zR,[])]
  (pickF [(4,FactU (Mo A (w.heap.size+1)) (RatP (a*s))),(9,FactU (Mo A (w.heap.size+1)) (RatP (b*s)))]) (by kernel_rfl) ?_ ?_ (by simp[noW_zRat]) (by simp) (by kernel_rfl)
 ·exact keeps_pick (by simp only[List.mem_cons,List.not_mem_nil,or_false]; rintro p (rfl|rfl)<;>first|exact FactU.keeps (RatP.keeps _)|exact FactU.keeps (RatB.keeps _ _)|exact FactU.keeps (CP.keeps _ _))
 ·refine⟨fun f w1=>by go_simp,?_⟩
  refine⟨_,fun f w1 h1=>by(have d0:=ct h1 hs2 e0; have d1:=ct h1 hs2 e1; go_simp; rfl),?_⟩
  refine⟨_,fun f w1 h1=>by(have d0:=ct h1 hs2 e0; have d1:=ct h1 hs2 e1; go_simp; rfl),?_⟩
  refine⟨_,fun f w1 h1=>by(have d0:=ct h1 hs2 e0; have d1:=ct h1 hs2 e1; go_simp; rfl),?_⟩
  simp only[Act.put,nrA,nrB,nrC,Nat.reduceAdd]
  refine⟨fun f w1 A1 m1 k1 hA hN hAm hm0 e hz hd K hK=>by
   simp only[e] at hK ⊢
   go_simp
   refine(RMul_any m1 _ _ _ _ _ _ w1 hz (by decide) noW_zRat (later (FactU.keeps (RatP.keeps _)) h1 k1 hN) (later (FactU.keeps (RatP.keeps _)) hs k1 hN) (k) (l) hla hls (by omega)).mono ?_
   rintro e w' ⟨rfl,hp⟩
   exact hK _ w' hp.1 (hp.ratU (HV.out.2.2.1.below (br.drew.trans k1)) hA hm0 (fun b hb=>HV.out.2.2.1.lt hb)),?_⟩
  refine⟨fun f w1=>by go_simp,?_⟩
  refine⟨_,fun f w1 h1=>by(have d0:=ct h1 hs2 e0; have d1:=ct h1 hs2 e1; go_simp; rfl),?_⟩
  refine⟨_,fun f w1 h1=>by(have d0:=ct h1 hs2 e0; have d1:=ct h1 hs2 e1; go_simp; rfl),?_⟩
  refine⟨_,fun f w1 h1=>by(have d0:=ct h1 hs2 e0; have d1:=ct h1 hs2 e1; go_simp; rfl),?_⟩
  simp only[Act.put,nrA,nrB,nrC,Nat.reduceAdd]
  refine⟨fun f w1 A1 m1 k1 hA hN hAm hm0 e hz hd K hK=>by
   simp only[e] at hK ⊢
   go_simp
   refine(RMul_any m1 _ _ _ _ _ _ w1 hz (by decide) noW_zRat (later (FactU.keeps (RatP.keeps _)) h2 k1 hN) (later (FactU.keeps (RatP.keeps _)) hs k1 hN) (k) (l) hlb hls (by omega)).mono ?_
   rintro e w' ⟨rfl,hp⟩
   exact hK _ w' hp.1 (hp.ratU (HV.out.2.2.1.below (br.drew.trans k1)) hA hm0 (fun b hb=>HV.out.2.2.1.lt hb)),?_⟩
  intro f w1 k1 hF
  have i0:(RatP (a*s)) (f 4) w1 ((Mo A (w.heap.size+1))):=FactU.done (RatP.keeps _) hF.1.2
  have i1:(RatP (b*s)) (f 9) w1 ((Mo A (w.heap.size+1))):=FactU.done (RatP.keeps _) hF.2
  clear hF
  simp only[Act.put,nrA,nrB,nrC]
  generalize f 4=vi0 at *
  generalize f 9=vi1 at *
  have hbw1:Below W.heap.size W w1:=br.drew.trans k1
  obtain⟨c0,c1,f0,f1⟩:=HV.out.2.2.2 w1 hbw1
  have hbw:=HV.out.2.1.trans (hbw1.mono HV.out.2.1.size)
  have HE:=Lib.hid (And.intro i0 (And.intro i1 hbw))
  obtain⟨m1,rfl⟩:=i0.shape
  obtain⟨m2,rfl⟩:=i1.shape
  clear e0 e1 h1 h2 hs i0 i1 hbw hbw1 k1
  go_wp2_with fail
  refine bodyPost_ret (v:=.agg #[.pointer (some ⟨m1,0,none⟩),.pointer (some ⟨m2,0,none⟩)]) (by simp[results,Tryz.results82,go_sem,c0,c1]) rfl ?_
  exact put_c HE.out.2.2 HE.out.1 HE.out.2.1 (by omega)
set_option maxRecDepth 100000 in
theorem XConj_any(a b:Rat)(v:Value)(A:Nat→Prop)(w:World)(hv:CP a b v w A)(hA:Rcv A w)  (hlb:RL b 137438953472) :
  Calls Tryz.prog 78 #[v] w fun e w'=>∃ u,e=.returned u∧Below w.heap.size w w'∧CP (a) (-b) u w' A:=by
 obtain⟨u1,u2,rfl,h1,h2⟩:=hv
 obtain⟨W,HV,hs2,e0,e1⟩:=xbox_one w u1 u2 A hA
 have h1:=new_more (RatP.keeps a) (n:=w.heap.size+1) HV.out.2.1 (by omega) h1
 have h2:=new_more (RatP.keeps b) (n:=w.heap.size+1) HV.out.2.1 (by omega) h2
 clear hA
 go_enter Tryz.func78,Tryz.ntmps78
 go_wp2_with fail
 rw[←HV.out.1]
 refine wp_region_inv [(.lit,[]),(.lit,[]),(.new zR,[]),(.lit,[]),(.lit,[]),(.on 2 zR,[])]
  (pickF [(5,FactU (Mo A (w.heap.size+1)) (RatP (-b)))]) (by kernel_rfl) ?_ ?_ (by simp[noW_zRat]) (by simp) (by kernel_rfl)
 ·exact keeps_pick (by simp only[List.mem_cons,List.not_mem_nil,or_false]; rintro p (rfl)<;>first|exact FactU.keeps (RatP.keeps _)|exact FactU.keeps (RatB.keeps _ _)|exact FactU.keeps (CP.keeps _ _))
 ·refine⟨_,fun f w1 h1=>by(have d0:=ct h1 hs2 e0; have d1:=ct h1 hs2 e1; go_simp; rfl),?_⟩
  refine⟨_,fun f w1 h1=>by(have d0:=ct h1 hs2 e0; have d1:=ct h1 hs2 e1; go_simp; rfl),?_⟩
  refine⟨fun f w1=>by go_simp,?_⟩
  refine⟨_,fun f w1 h1=>by(have d0:=ct h1 hs2 e0; have d1:=ct h1 hs2 e1; go_simp; rfl),?_⟩
  refine⟨_,fun f w1 h1=>by(have d0:=ct h1 hs2 e0; have d1:=ct h1 hs2 e1; go_simp; rfl),?_⟩
  simp only[Act.put,nrA,nrB,nrC,Nat.reduceAdd]
  refine⟨fun f w1 A1 m1 k1 hA hN hAm hm0 e hz hd K hK=>by
   simp only[e] at hK ⊢
   go_simp
   refine(RNeg_any m1 _ _ _ _ w1 hz (by decide) noW_zRat (later (FactU.keeps (RatP.keeps _)) h2 k1 hN) hlb).mono ?_
   rintro e w' ⟨rfl,hp⟩
   exact hK _ w' hp.1 (hp.ratU (HV.out.2.2.1.below (br.drew.trans k1)) hA hm0 (fun b hb=>HV.out.2.2.1.lt hb)),?_⟩
  intro f w1 k1 hF
  have i0:(RatP (-b)) (f 5) w1 ((Mo A (w.heap.size+1))):=FactU.done (RatP.keeps _) hF.2
  clear hF
  simp only[Act.put,nrA,nrB,nrC]
  generalize f 5=vi0 at *
  have hbw1:Below W.heap.size W w1:=br.drew.trans k1
  have i1:RatP a u1 w1 (Mo A (w.heap.size+1)):=FactU.done (RatP.keeps _) (later (FactU.keeps (RatP.keeps _)) h1 k1 (fun _ h=>h.elim))
  obtain⟨c0,c1,f0,f1⟩:=HV.out.2.2.2 w1 hbw1
  have hbw:=HV.out.2.1.trans (hbw1.mono HV.out.2.1.size)
  have HE:=Lib.hid (And.intro i1 (And.intro i0 hbw))
  obtain⟨m1,rfl⟩:=i1.shape
  obtain⟨m2,rfl⟩:=i0.shape
  clear e0 e1 h1 h2 i1 i0 hbw hbw1 k1
  go_wp2_with fail
  refine bodyPost_ret (v:=.agg #[.pointer (some ⟨m1,0,none⟩),.pointer (some ⟨m2,0,none⟩)]) (by simp[results,Tryz.results78,go_sem,c0,c1]) rfl ?_
  exact put_c HE.out.2.2 HE.out.1 HE.out.2.1 (by omega)
set_option maxRecDepth 100000 in
theorem XNorm_any(a b:Rat)(v:Value)(A:Nat→Prop)(w:World)(hv:CP a b v w A)(hA:Rcv A w)(k:Nat)(hla:RL a k)(hlb:RL b k)(hkl:k+k+(k+k)<137438953472) :
  Calls Tryz.prog 84 #[v] w fun e w'=>∃ u,e=.returned u∧Below w.heap.size w w'∧RatP (a*a+b*b) u w' A:=by
 obtain⟨u1,u2,rfl,h1,h2⟩:=hv
 obtain⟨W,hW⟩:∃ W,W=w.alloc (.cells #[u1,u2] 76):=⟨_,rfl⟩
 obtain⟨e0,e1,_⟩:=new_two w u1 u2 76 br
 have hb:Below w.heap.size w W:=by rw[hW]; exact br.alloc (Nat.le_refl _) _
 have hs2:w.heap.size<W.heap.size:=by rw[hW]; simp
 rw[←hW] at e0 e1
 have HV:=Lib.hid (And.intro hW (And.intro hb (hA.below hb)))
 have h1:=FactU.start (RatP.keeps a) (h1.below hb)
 have h2:=FactU.start (RatP.keeps b) (h2.below hb)
 clear hA hW hb
 go_enter Tryz.func84,Tryz.ntmps84
 go_wp2_with fail
 rw[←HV.out.1]
 refine wp_region_inv [(.new zR,[]),(.lit,[]),(.lit,[]),(.lit,[]),(.lit,[]),(.on 0 zR,[]),(.new zR,[]),(.lit,[]),(.lit,[]),(.lit,[]),(.lit,[]),(.on 6 zR,[])]
  (pickF [(5,FactU A (RatB W.heap.size (a*a))),(11,FactU A (RatP (b*b)))]) (by kernel_rfl) ?_ ?_ (by simp[noW_zRat]) (by simp) (by kernel_rfl)
 ·exact keeps_pick (by simp only[List.mem_cons,List.not_mem_nil,or_false]; rintro p (rfl|rfl)<;>first|exact FactU.keeps (RatP.keeps _)|exact FactU.keeps (RatB.keeps _ _)|exact FactU.keeps (CP.keeps _ _))
 ·refine⟨fun f w1=>by go_simp,?_⟩
  refine⟨_,fun f w1 h1=>by(have d0:=ct h1 hs2 e0; have d1:=ct h1 hs2 e1; go_simp; rfl),?_⟩
  refine⟨_,fun f w1 h1=>by(have d0:=ct h1 hs2 e0; have d1:=ct h1 hs2 e1; go_simp; rfl),?_⟩
  refine⟨_,fun f w1 h1=>by(have d0:=ct h1 hs2 e0; have d1:=ct h1 hs2 e1; go_simp; rfl),?_⟩
  refine⟨_,fun f w1 h1=>by(have d0:=ct h1 hs2 e0; have d1:=ct h1 hs2 e1; go_simp; rfl),?_⟩
  simp only[Act.put,nrA,nrB,nrC,Nat.reduceAdd]
  refine⟨fun f w1 A1 m1 k1 hA hN hAm hm0 e hz hd K hK=>by
   simp only[e] at hK ⊢
   go_simp
   refine(RMul_any m1 _ _ _ _ _ _ w1 hz (by decide) noW_zRat (later (FactU.keeps (RatP.keeps _)) h1 k1 hN) (later (FactU.keeps (RatP.keeps _)) h1 k1 hN) (k) (k) hla hla (by omega)).mono ?_
   rintro e w' ⟨rfl,hp⟩
   exact hK _ w' hp.1 (hp.ratB (HV.out.2.2.below (br.drew.trans k1)) hA hm0 (fun b hb=>HV.out.2.2.lt hb)),?_⟩
  refine⟨fun f w1=>by go_simp,?_⟩
  refine⟨_,fun f w1 h1=>by(have d0:=ct h1 hs2 e0; have d1:=ct h1 hs2 e1; go_simp; rfl),?_⟩
  refine⟨_,fun f w1 h1=>by(have d0:=ct h1 hs2 e0; have d1:=ct h1 hs2 e1; go_simp; rfl),?_⟩
  refine⟨_,fun f w1 h1=>by(have d0:=ct h1 hs2 e0; have d1:=ct h1 hs2 e1; go_simp; rfl),?_⟩
  refine⟨_,fun f w1 h1=>by(have d0:=ct h1 hs2 e0; have d1:=ct h1 hs2 e1; go_simp; rfl),?_⟩
  simp only[Act.put,nrA,nrB,nrC,Nat.reduceAdd]
  refine⟨fun f w1 A1 m1 k1 hA hN hAm hm0 e hz hd K hK=>by
   simp only[e] at hK ⊢
   go_simp
   refine(RMul_any m1 _ _ _ _ _ _ w1 hz (by decide) noW_zRat (later (FactU.keeps (RatP.keeps _)) h2 k1 hN) (later (FactU.keeps (RatP.keeps _)) h2 k1 hN) (k) (k) hlb hlb (by omega)).mono ?_
   rintro e w' ⟨rfl,hp⟩
   exact hK _ w' hp.1 (hp.ratU (HV.out.2.2.below (br.drew.trans k1)) hA hm0 (fun b hb=>HV.out.2.2.lt hb)),?_⟩
  intro f w1 k1 hF
  have i0:(RatB W.heap.size (a*a)) (f 5) w1 (A):=FactU.done (RatB.keeps _ _) hF.1.2
  have i1:(RatP (b*b)) (f 11) w1 (A):=FactU.done (RatP.keeps _) hF.2
  clear hF
  simp only[Act.put,nrA,nrB,nrC]
  generalize f 5=vi0 at *
  generalize f 11=vi1 at *
  have hbw1:Below W.heap.size W w1:=br.drew.trans k1
  obtain⟨m1,C1,rfl,hmb,hna,hm,hC4,hC,hr0⟩:=i0
  obtain⟨m2,rfl⟩:=i1.shape
  have hbw:=HV.out.2.1.trans (hbw1.mono HV.out.2.1.size)
  have hM:=Lib.hid (RAdd_any m1 C1 _ _ _ _ A w1 hm hC4 hC hr0 i1 (k+k) (k+k) (RL_mul hla hla) (RL_mul hlb hlb) hkl)
  have HE:=Lib.hid (And.intro hbw (And.intro hmb (And.intro hna (HV.out.2.2.below hbw1))))
  clear e0 e1 h1 h2 i1 hr0 hm hbw hbw1 k1 hmb hna
  go_wp2_with fail
  refine hM.out.mono ?_
  rintro e w2 ⟨rfl,hp⟩
  have HP:=Lib.hid hp
  clear hp hM
  go_wp2_with fail
  go_ret
  exact⟨_,rfl,HE.out.1.trans (HP.out.1.below (Nat.le_trans (Nat.le_of_lt hs2) HE.out.2.1) HE.out.1.size),(HP.out.ratP HE.out.2.2.2).wider fun b hb=>⟨hb,fun e=>HE.out.2.2.1 (e▸hb)⟩⟩
end Go.Proofs.YtjlhiaafnpompaaGreat
namespace Go.Proofs.YtjlhiaafnpompaaGreat
open Go.RowKit Tr
theorem add_more1{R:Fact}(hR:R.Keeps){n:Nat}{A:Nat→Prop}{x:Value}{w w1:World}(hb:Below w.heap.size w w1)(hn:w.heap.size≤n)(h:FactU A R x w NoA):FactU (Mo A n) R x w1 NoA :=
 hR _ _ _ _ _ hb.size (fun b hlt hna=>⟨hb.block b hlt,fun h=>h.elim (fun h=>h) (fun h=>h.elim (fun h=>hna (.inr h)) (fun e=>by omega))⟩) h
set_option maxRecDepth 100000 in
theorem XMul_any(a b c d:Rat)(v v':Value)(A:Nat→Prop)(w:World)(hv:CP a b v w A)(hv':CP c d v' w A)(hA:Rcv A w)(k l:Nat)(hla:RL a k)(hlb:RL b k)(hlc:RL c l)(hld:RL d l)(hkl:k+l+(k+l)<137438953472) :
  Calls Tryz.prog 69 #[v,v'] w fun e w'=>∃ u,e=.returned u∧Below w.heap.size w w'∧CP (a*c - b*d) (a*d+b*c) u w' A:=by
 obtain⟨u1,u2,rfl,h1,h2⟩:=hv
 obtain⟨u3,u4,rfl,h3,h4⟩:=hv'
 obtain⟨W,HV,hs1,hs2,e0,e1,e2,e3⟩:=xbox_two w u1 u2 u3 u4 A hA
 have h1:=new_more (RatP.keeps a) (n:=w.heap.size+2) HV.out.2.1 (by omega) h1
 have h2:=new_more (RatP.keeps b) (n:=w.heap.size+2) HV.out.2.1 (by omega) h2
 have h3:=new_more (RatP.keeps c) (n:=w.heap.size+2) HV.out.2.1 (by omega) h3
 have h4:=new_more (RatP.keeps d) (n:=w.heap.size+2) HV.out.2.1 (by omega) h4
 clear hA
 go_enter Tryz.func69,Tryz.ntmps69
 go_wp2_with fail
 rw[←HV.out.1]
 refine wp_region_inv [(.new zR,[]),(.lit,[]),(.lit,[]),(.lit,[]),(.lit,[]),(.on 0 zR,[]),(.new zR,[]),(.lit,[]),(.lit,[]),(.lit,[]),(.lit,[]),(.on 6 zR,[])]
  (pickF [(5,FactU (Mo A (w.heap.size+2)) (RatB W.heap.size (a*c))),(11,FactU (Mo A (w.heap.size+2)) (RatP (b*d)))]) (by kernel_rfl) ?_ ?_ (by simp[noW_zRat]) (by simp) (by kernel_rfl)
 ·exact keeps_pick (by simp only[List.mem_cons,List.not_mem_nil,or_false]; rintro p (rfl|rfl)<;>first|exact FactU.keeps (RatP.keeps _)|exact FactU.keeps (RatB.keeps _ _)|exact FactU.keeps (CP.keeps _ _))
 ·refine⟨fun f w1=>by go_simp,?_⟩
  refine⟨_,fun f w1 h1=>by(have d0:=ct h1 hs1 e0; have d1:=ct h1 hs1 e1; have d2:=ct h1 hs2 e2; have d3:=ct h1 hs2 e3; go_simp; rfl),?_⟩
  refine⟨_,fun f w1 h1=>by(have d0:=ct h1 hs1 e0; have d1:=ct h1 hs1 e1; have d2:=ct h1 hs2 e2; have d3:=ct h1 hs2 e3; go_simp; rfl),?_⟩
  refine⟨_,fun f w1 h1=>by(have d0:=ct h1 hs1 e0; have d1:=ct h1 hs1 e1; have d2:=ct h1 hs2 e2; have d3:=ct h1 hs2 e3; go_simp; rfl),?_⟩
  refine⟨_,fun f w1 h1=>by(have d0:=ct h1 hs1 e0; have d1:=ct h1 hs1 e1; have d2:=ct h1 hs2 e2; have d3:=ct h1 hs2 e3; go_simp; rfl),?_⟩
  simp only[Act.put,nrA,nrB,nrC,Nat.reduceAdd]
  refine⟨fun f w1 A1 m1 k1 hA hN hAm hm0 e hz hd K hK=>by
   simp only[e] at hK ⊢
   go_simp
   refine(RMul_any m1 _ _ _ _ _ _ w1 hz (by decide) noW_zRat (later (FactU.keeps (RatP.keeps _)) h1 k1 hN) (later (FactU.keeps (RatP.keeps _)) h3 k1 hN) (k) (l) hla hlc (by omega)).mono ?_
   rintro e w' ⟨rfl,hp⟩
   exact hK _ w' hp.1 (hp.ratB (HV.out.2.2.1.below (br.drew.trans k1)) hA hm0 (fun b hb=>HV.out.2.2.1.lt hb)),?_⟩
  refine⟨fun f w1=>by go_simp,?_⟩
  refine⟨_,fun f w1 h1=>by(have d0:=ct h1 hs1 e0; have d1:=ct h1 hs1 e1; have d2:=ct h1 hs2 e2; have d3:=ct h1 hs2 e3; go_simp; rfl),?_⟩
  refine⟨_,fun f w1 h1=>by(have d0:=ct h1 hs1 e0; have d1:=ct h1 hs1 e1; have d2:=ct h1 hs2 e2; have d3:=ct h1 hs2 e3; go_simp; rfl),?_⟩
  refine⟨_,fun f w1 h1=>by(have d0:=ct h1 hs1 e0; have d1:=ct h1 hs1 e1; have d2:=ct h1 hs2 e2; have d3:=ct h1 hs2 e3; go_simp; rfl),?_⟩
  refine⟨_,fun f w1 h1=>by(have d0:=ct h1 hs1 e0; have d1:=ct h1 hs1 e1; have d2:=ct h1 hs2 e2; have d3:=ct h1 hs2 e3; go_simp; rfl),?_⟩
  simp only[Act.put,nrA,nrB,nrC,Nat.reduceAdd]
  refine⟨fun f w1 A1 m1 k1 hA hN hAm hm0 e hz hd K hK=>by
   simp only[e] at hK ⊢
   go_simp
   refine(RMul_any m1 _ _ _ _ _ _ w1 hz (by decide) noW_zRat (later (FactU.keeps (RatP.keeps _)) h2 k1 hN) (later (FactU.keeps (RatP.keeps _)) h4 k1 hN) (k) (l) hlb hld (by omega)).mono ?_
   rintro e w' ⟨rfl,hp⟩
   exact hK _ w' hp.1 (hp.ratU (HV.out.2.2.1.below (br.drew.trans k1)) hA hm0 (fun b hb=>HV.out.2.2.1.lt hb)),?_⟩
  intro f w1 k1 hF
  have i0:(RatB W.heap.size (a*c)) (f 5) w1 ((Mo A (w.heap.size+2))):=FactU.done (RatB.keeps _ _) hF.1.2
  have i1:(RatP (b*d)) (f 11) w1 ((Mo A (w.heap.size+2))):=FactU.done (RatP.keeps _) hF.2
  clear hF
  simp only[Act.put,nrA,nrB,nrC]
  generalize f 5=vi0 at *
  generalize f 11=vi1 at *
  have hbw1:Below W.heap.size W w1:=br.drew.trans k1
  obtain⟨m1,C1,rfl,hmb,hna,hm,hC4,hC,hr0⟩:=i0
  obtain⟨m2,rfl⟩:=i1.shape
  -- the second pair keeps clear of the first's block as well
  have hR1:Rcv (Mo (Mo A (w.heap.size+2)) m1) w1:=fun b h=>h.elim (fun h=>(HV.out.2.2.1.below hbw1) b h) (fun h=>by subst h; exact⟨_,hm,hC⟩)
  have h1':=add_more1 (RatP.keeps a) (n:=m1) hbw1 hmb h1
  have h2':=add_more1 (RatP.keeps b) (n:=m1) hbw1 hmb h2
  have h3':=add_more1 (RatP.keeps c) (n:=m1) hbw1 hmb h3
  have h4':=add_more1 (RatP.keeps d) (n:=m1) hbw1 hmb h4
  have t1:=(hbw1.cell (p:=⟨w.heap.size,0,none⟩) hs1).trans e0
  have t2:=(hbw1.cell (p:=⟨w.heap.size,1,none⟩) hs1).trans e1
  have t3:=(hbw1.cell (p:=⟨w.heap.size+1,0,none⟩) hs2).trans e2
  have t4:=(hbw1.cell (p:=⟨w.heap.size+1,1,none⟩) hs2).trans e3
  have l1:w.heap.size<w1.heap.size:=Nat.lt_of_lt_of_le hs1 hbw1.size
  have l2:w.heap.size+1<w1.heap.size:=Nat.lt_of_lt_of_le hs2 hbw1.size
  have HE:=Lib.hid (And.intro hbw1 (And.intro hmb (And.intro hna (And.intro hm (And.intro hC4 (And.intro hC (And.intro hr0 (And.intro i1 hR1))))))))
  clear e0 e1 e2 e3 h1 h2 h3 h4 i1 hr0 hm hC hC4 hbw1 k1 hmb hna hR1
  go_wp2_with fail
  refine wp_region_inv [(.new zR,[]),(.lit,[]),(.lit,[]),(.lit,[]),(.lit,[]),(.on 0 zR,[]),(.new zR,[]),(.lit,[]),(.lit,[]),(.lit,[]),(.lit,[]),(.on 6 zR,[])]
   (pickF [(5,FactU (Mo (Mo A (w.heap.size+2)) m1) (RatB w1.heap.size (a*d))),(11,FactU (Mo (Mo A (w.heap.size+2)) m1) (RatP (b*c)))]) (by kernel_rfl) ?_ ?_ (by simp[noW_zRat]) (by simp) (by kernel_rfl)
  ·exact keeps_pick (by simp only[List.mem_cons,List.not_mem_nil,or_false]; rintro p (rfl|rfl)<;>first|exact FactU.keeps (RatP.keeps _)|exact FactU.keeps (RatB.keeps _ _)|exact FactU.keeps (CP.keeps _ _))
  ·refine⟨fun f w1=>by go_simp,?_⟩
   refine⟨_,fun f w1 h1=>by(have d0:=ct h1 l1 t1; have d1:=ct h1 l1 t2; have d2:=ct h1 l2 t3; have d3:=ct h1 l2 t4; go_simp; rfl),?_⟩
   refine⟨_,fun f w1 h1=>by(have d0:=ct h1 l1 t1; have d1:=ct h1 l1 t2; have d2:=ct h1 l2 t3; have d3:=ct h1 l2 t4; go_simp; rfl),?_⟩
   refine⟨_,fun f w1 h1=>by(have d0:=ct h1 l1 t1; have d1:=ct h1 l1 t2; have d2:=ct h1 l2 t3; have d3:=ct h1 l2 t4; go_simp; rfl),?_⟩
   refine⟨_,fun f w1 h1=>by(have d0:=ct h1 l1 t1; have d1:=ct h1 l1 t2; have d2:=ct h1 l2 t3; have d3:=ct h1 l2 t4; go_simp; rfl),?_⟩
   simp only[Act.put,nrA,nrB,nrC,Nat.reduceAdd]
   refine⟨fun f w1 A1 m1 k1 hA hN hAm hm0 e hz hd K hK=>by
    simp only[e] at hK ⊢
    go_simp
    refine(RMul_any m1 _ _ _ _ _ _ w1 hz (by decide) noW_zRat (later (FactU.keeps (RatP.keeps _)) h1' k1 hN) (later (FactU.keeps (RatP.keeps _)) h4' k1 hN) (k) (l) hla hld (by omega)).mono ?_
    rintro e w' ⟨rfl,hp⟩
    exact hK _ w' hp.1 (hp.ratB (HE.out.2.2.2.2.2.2.2.2.below (br.drew.trans k1)) hA hm0 (fun b hb=>HE.out.2.2.2.2.2.2.2.2.lt hb)),?_⟩
   refine⟨fun f w1=>by go_simp,?_⟩
   refine⟨_,fun f w1 h1=>by(have d0:=ct h1 l1 t1; have d1:=ct h1 l1 t2; have d2:=ct h1 l2 t3; have d3:=ct h1 l2 t4; go_simp; rfl),?_⟩
   refine⟨_,fun f w1 h1=>by(have d0:=ct h1 l1 t1; have d1:=ct h1 l1 t2; have d2:=ct h1 l2 t3; have d3:=ct h1 l2 t4; go_simp; rfl),?_⟩
   refine⟨_,fun f w1 h1=>by(have d0:=ct h1 l1 t1; have d1:=ct h1 l1 t2; have d2:=ct h1 l2 t3; have d3:=ct h1 l2 t4; go_simp; rfl),?_⟩
   refine⟨_,fun f w1 h1=>by(have d0:=ct h1 l1 t1; have d1:=ct h1 l1 t2; have d2:=ct h1 l2 t3; have d3:=ct h1 l2 t4; go_simp; rfl),?_⟩
   simp only[Act.put,nrA,nrB,nrC,Nat.reduceAdd]
   refine⟨fun f w1 A1 m1 k1 hA hN hAm hm0 e hz hd K hK=>by
    simp only[e] at hK ⊢
    go_simp
    refine(RMul_any m1 _ _ _ _ _ _ w1 hz (by decide) noW_zRat (later (FactU.keeps (RatP.keeps _)) h2' k1 hN) (later (FactU.keeps (RatP.keeps _)) h3' k1 hN) (k) (l) hlb hlc (by omega)).mono ?_
    rintro e w' ⟨rfl,hp⟩
    exact hK _ w' hp.1 (hp.ratU (HE.out.2.2.2.2.2.2.2.2.below (br.drew.trans k1)) hA hm0 (fun b hb=>HE.out.2.2.2.2.2.2.2.2.lt hb)),?_⟩
   intro g w2 k2 hF
   have j0:(RatB w1.heap.size (a*d)) (g 5) w2 ((Mo (Mo A (w.heap.size+2)) m1)):=FactU.done (RatB.keeps _ _) hF.1.2
   have j1:(RatP (b*c)) (g 11) w2 ((Mo (Mo A (w.heap.size+2)) m1)):=FactU.done (RatP.keeps _) hF.2
   clear hF
   simp only[Act.put,nrA,nrB,nrC]
   generalize g 5=vj0 at *
   generalize g 11=vj1 at *
   have hbw2:Below w1.heap.size w1 w2:=br.drew.trans k2
   obtain⟨m3,C3,rfl,hmb3,hna3,hm3,hC43,hC3,hr3⟩:=j0
   obtain⟨m4,rfl⟩:=j1.shape
   have hm13:m3≠m1:=fun e=>hna3 (.inr e)
   have hM1:=Lib.hid (RSub_any m1 C1 _ _ _ _ (Mo A (w.heap.size+2)) w2 ((hbw2.block m1 (Array.getElem?_eq_some_iff.1 HE.out.2.2.2.1).1).trans HE.out.2.2.2.1) HE.out.2.2.2.2.1 HE.out.2.2.2.2.2.1 (HE.out.2.2.2.2.2.2.1.below hbw2) (HE.out.2.2.2.2.2.2.2.1.below hbw2) (k+l) (k+l) (RL_mul hla hlc) (RL_mul hlb hld) hkl)
   have HG:=Lib.hid (And.intro hbw2 (And.intro hmb3 (And.intro hna3 (And.intro hm3 (And.intro hC43 (And.intro hC3 (And.intro hr3 (And.intro j1 hm13))))))))
   clear t1 t2 t3 t4 l1 l2 h1' h2' h3' h4' j1 hr3 hm3 hC3 hC43 hbw2 k2 hmb3 hna3 hm13
   go_wp2_with fail
   refine hM1.out.mono ?_
   rintro e w3 ⟨rfl,hp1⟩
   -- what stays where m1 is written
   have hk3:∀ R:Fact,R.Keeps→∀ v,R v w2 (Mo (Mo A (w.heap.size+2)) m1)→R v w3 (Mo A (w.heap.size+2)):=fun R hR v h =>
    hR _ _ _ _ _ hp1.1.size (fun b hb hn=>⟨hp1.1.block b hb (fun e=>hn (.inr e)),fun h=>hn (.inl h)⟩) h
   have hm3':w3.heap[m3]?=some (.cells C3 129 (0,0)):=(hp1.1.block m3 (Array.getElem?_eq_some_iff.1 HG.out.2.2.2.1).1 HG.out.2.2.2.2.2.2.2.2).trans HG.out.2.2.2.1
   have hM2:=Lib.hid (RAdd_any m3 C3 _ _ _ _ (Mo A (w.heap.size+2)) w3 hm3' HG.out.2.2.2.2.1 HG.out.2.2.2.2.2.1 (hk3 _ (RatP.keeps _) _ HG.out.2.2.2.2.2.2.1) (hk3 _ (RatP.keeps _) _ HG.out.2.2.2.2.2.2.2.1) (k+l) (k+l) (RL_mul hla hld) (RL_mul hlb hlc) hkl)
   -- the first result,clear of the second's block
   have hR2:Rcv (Mo (Mo A (w.heap.size+2)) m3) w2:=fun b h=>h.elim (fun h=>HV.out.2.2.1.below (HE.out.1.trans (HG.out.1.mono HE.out.1.size)) b h) (fun h=>by subst h; exact⟨_,HG.out.2.2.2.1,HG.out.2.2.2.2.2.1⟩)
   have hq1:RatP (a*c - b*d) (.pointer (some ⟨m1,0,none⟩)) w3 (Mo (Mo A (w.heap.size+2)) m3):=(hp1.ratP hR2).wider fun b hb=>⟨hb,fun e=>hb.elim (fun h=>HE.out.2.2.1 (e▸h)) (fun h=>HG.out.2.2.2.2.2.2.2.2 (h.symm.trans e))⟩
   have HP1:=Lib.hid (And.intro hp1 hq1)
   clear hp1 hk3 hm3' hR2 hq1 hM1
   go_wp2_with fail
   refine hM2.out.mono ?_
   rintro e w4 ⟨rfl,hp2⟩
   have hq1':RatP (a*c - b*d) (.pointer (some ⟨m1,0,none⟩)) w4 (Mo A (w.heap.size+2)):=RatP.keeps _ _ _ _ _ _ hp2.1.size (fun b hb hn=>⟨hp2.1.block b hb (fun e=>hn (.inr e)),fun h=>hn (.inl h)⟩) HP1.out.2
   have hs3:=HP1.out.1.1.size
   have hR3:Rcv (Mo A (w.heap.size+2)) w3:=fun b h=>by
    obtain⟨z,hz,hn⟩:=(HV.out.2.2.1.below (HE.out.1.trans (HG.out.1.mono HE.out.1.size))) b h
    exact⟨z,(HP1.out.1.1.block b (Array.getElem?_eq_some_iff.1 hz).1 (fun e=>HE.out.2.2.1 (e▸h))).trans hz,hn⟩
   have hq2:RatP (a*d+b*c) (.pointer (some ⟨m3,0,none⟩)) w4 (Mo A (w.heap.size+2)):=(hp2.ratP hR3).wider fun b hb=>⟨hb,fun e=>HG.out.2.2.1 (.inl (e▸hb))⟩
   have hB02:Below W.heap.size W w2:=HE.out.1.trans (HG.out.1.mono HE.out.1.size)
   have hB03:Below W.heap.size W w3:=hB02.trans (HP1.out.1.1.below HE.out.2.1 hB02.size)
   have hB04:Below W.heap.size W w4:=hB03.trans (hp2.1.below (Nat.le_trans HE.out.1.size HG.out.2.1) hB03.size)
   obtain⟨c0,c1,f0,f1⟩:=HV.out.2.2.2 w4 hB04
   have HF:=Lib.hid (And.intro hq1' (And.intro hq2 (HV.out.2.1.trans (hB04.mono HV.out.2.1.size))))
   clear hq1' hq2 hR3 hB02 hB03 hB04 hp2 hM2 hs3
   go_wp2_with fail
   refine bodyPost_ret (v:=.agg #[.pointer (some ⟨m1,0,none⟩),.pointer (some ⟨m3,0,none⟩)]) (by simp[results,Tryz.results69,go_sem,c0,c1]) rfl ?_
   exact put_c HF.out.2.2 HF.out.1 HF.out.2.1 (by omega)
end Go.Proofs.YtjlhiaafnpompaaGreat
