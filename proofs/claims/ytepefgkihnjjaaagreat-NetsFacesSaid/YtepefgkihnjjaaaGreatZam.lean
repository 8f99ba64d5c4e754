/- Laws for the walk. -/
import Derived.Test.YtepefgkihnjjaaaGreatZzz
import Derived.Test.YtepefgkihnjjaaaGreatZal
set_option linter.unusedVariables false
namespace Go.Proofs.YtepefgkihnjjaaaGreat
open Go.RowKit Tr
theorem box_two (w : World) (u1 u2 u3 u4 : Value) (A : Nat → Prop) (hA : Rcv A w) :
  ∃ W,Hid (W = ((w.alloc (.cells #[u1,u2] 66)).alloc (.cells #[u3,u4] 66)).alloc (.cells #[.pointer none,.pointer none] 66) ∧ Below w.heap.size w W ∧ Rcv (Mo A (w.heap.size + 2)) W ∧ ∀ w1,Below W.heap.size W w1 → w1.cell? ⟨w.heap.size + 2,0,none⟩ = some (.pointer none) ∧ w1.cell? ⟨w.heap.size + 2,1,none⟩ = some (.pointer none) ∧ w1.frozen? ⟨w.heap.size + 2,0,none⟩ = false ∧ w1.frozen? ⟨w.heap.size + 2,1,none⟩ = false) ∧ w.heap.size < W.heap.size ∧ w.heap.size + 1 < W.heap.size ∧ W.cell? ⟨w.heap.size,0,none⟩ = some u1 ∧ W.cell? ⟨w.heap.size,1,none⟩ = some u2 ∧ W.cell? ⟨w.heap.size + 1,0,none⟩ = some u3 ∧ W.cell? ⟨w.heap.size + 1,1,none⟩ = some u4 := by
 obtain ⟨w1,hw1⟩ : ∃ w1,w1 = w.alloc (.cells #[u1,u2] 66) := ⟨_,rfl⟩
 have hz1 : w1.heap.size = w.heap.size + 1 := by rw [hw1]; simp
 obtain ⟨w2,hw2⟩ : ∃ w2,w2 = w1.alloc (.cells #[u3,u4] 66) := ⟨_,rfl⟩
 have hz2 : w2.heap.size = w.heap.size + 2 := by rw [hw2]; simp [hz1]
 have hb01 : Below w.heap.size w w1 := by rw [hw1]; exact br.alloc (Nat.le_refl _) _
 have hb12 : Below w1.heap.size w1 w2 := by rw [hw2]; exact br.alloc (Nat.le_refl _) _
 have hb23 : Below w2.heap.size w2 (w2.alloc (.cells #[.pointer none,.pointer none] 66)) := br.alloc (Nat.le_refl _) _
 have hb13 := hb12.trans (hb23.mono hb12.size)
 have hb : Below w.heap.size w (w2.alloc (.cells #[.pointer none,.pointer none] 66)) := hb01.trans (hb13.mono hb01.size)
 obtain ⟨e0,e1,_⟩ := new_two w u1 u2 66 (by rw [← hw1]; exact hb13)
 obtain ⟨e2,e3,_⟩ := new_two w1 u3 u4 66 (by rw [← hw2]; exact hb23)
 have hn := heap_alloc_new w2 (.cells #[.pointer none,.pointer none] 66 (0,0))
 rw [hz2] at hn
 rw [hz1] at e2 e3
 refine ⟨w2.alloc (.cells #[.pointer none,.pointer none] 66),Lib.hid ⟨by rw [hw2,hw1],hb,fun b h => h.elim (fun h => (hA.below hb) b h) (fun h => by subst h; exact ⟨_,hn,noW_num _ _ ⟨_,rfl⟩ ⟨_,rfl⟩ _⟩),fun w1 h => ?_⟩,by simp; omega,by simp; omega,e0,e1,e2,e3⟩
 have := new_two w2 (.pointer none) (.pointer none) 66 h
 rw [hz2] at this
 exact this
set_option maxRecDepth 100000 in
set_option maxHeartbeats 1600000 in
theorem NNorm_any (a b : Rat) (v : Value) (A : Nat → Prop) (w : World) (hv : NumO a b v w A) (hA : Rcv A w) (k : Nat) (hla : RL a k) (hlb : RL b k) (hkl : k + k + (k + k) < 137438953472) :
  Calls Tryz.prog 69 #[v] w fun e w' => ∃ u,e = .returned u ∧ Below w.heap.size w w' ∧ RatP (a * a + b * b) u w' A := by
 obtain ⟨u1,u2,rfl,h1,h2⟩ := hv
 obtain ⟨W,hW⟩ : ∃ W,W = w.alloc (.cells #[u1,u2] 66) := ⟨_,rfl⟩
 obtain ⟨e0,e1,_⟩ := new_two w u1 u2 66 br
 have hb : Below w.heap.size w W := by rw [hW]; exact br.alloc (Nat.le_refl _) _
 have hs2 : w.heap.size < W.heap.size := by rw [hW]; simp
 rw [← hW] at e0 e1
 have HV := Lib.hid (And.intro hW (And.intro hb (hA.below hb)))
 have h1 := FactU.start (RatO.keeps a) (h1.below hb)
 have h2 := FactU.start (RatO.keeps b) (h2.below hb)
 clear hA hW hb
 go_enter Tryz.func69,Tryz.ntmps69
 go_wp2_with fail
 rw [← HV.out.1]
 refine wp_region_inv [(.new zR,[]),(.lit,[]),(.lit,[]),(.lit,[]),(.lit,[]),(.val,[]),(.lit,[]),(.lit,[]),(.lit,[]),(.lit,[]),(.val,[]),(.on 0 zR,[5,10])]
  (pickF [(5,FactU A (RatP (a * a))),(10,FactU A (RatP (b * b))),(11,FactU A (RatP (a * a + b * b)))]) (by kernel_rfl) ?_ ?_ (by simp [noW_zRat]) (by simp) (by kernel_rfl)
 ·exact keeps_pick (by simp only [List.mem_cons,List.not_mem_nil,or_false]; rintro p (rfl | rfl | rfl) <;> exact FactU.keeps (RatP.keeps _))
 ·refine ⟨fun f w1 => by go_simp,?_⟩
  refine ⟨_,fun f w1 h1 => by (have d0 := ct h1 hs2 e0; have d1 := ct h1 hs2 e1; go_simp; rfl),?_⟩
  refine ⟨_,fun f w1 h1 => by (have d0 := ct h1 hs2 e0; have d1 := ct h1 hs2 e1; go_simp; rfl),?_⟩
  refine ⟨_,fun f w1 h1 => by (have d0 := ct h1 hs2 e0; have d1 := ct h1 hs2 e1; go_simp; rfl),?_⟩
  refine ⟨_,fun f w1 h1 => by (have d0 := ct h1 hs2 e0; have d1 := ct h1 hs2 e1; go_simp; rfl),?_⟩
  simp only [Act.put,nrA,nrB,nrC,Nat.reduceAdd]
  refine ⟨fun f w1 A1 k1 hA hN hd K hK => by
   go_simp
   refine (emul_any a a u1 u1 (Un A A1) w1 (later (FactU.keeps (RatO.keeps _)) h1 k1 hN) (later (FactU.keeps (RatO.keeps _)) h1 k1 hN) (rcv_un (HV.out.2.2.below (br.drew.trans k1)) hA) k k hla hla (by omega)).mono ?_
   rintro e w' ⟨v,rfl,hb,hr⟩
   exact hK _ _ hb hr,?_⟩
  refine ⟨_,fun f w1 h1 => by (have d0 := ct h1 hs2 e0; have d1 := ct h1 hs2 e1; go_simp; rfl),?_⟩
  refine ⟨_,fun f w1 h1 => by (have d0 := ct h1 hs2 e0; have d1 := ct h1 hs2 e1; go_simp; rfl),?_⟩
  refine ⟨_,fun f w1 h1 => by (have d0 := ct h1 hs2 e0; have d1 := ct h1 hs2 e1; go_simp; rfl),?_⟩
  refine ⟨_,fun f w1 h1 => by (have d0 := ct h1 hs2 e0; have d1 := ct h1 hs2 e1; go_simp; rfl),?_⟩
  simp only [Act.put,nrA,nrB,nrC,Nat.reduceAdd]
  refine ⟨fun f w1 A1 k1 hA hN hd K hK => by
   go_simp
   refine (emul_any b b u2 u2 (Un A A1) w1 (later (FactU.keeps (RatO.keeps _)) h2 k1 hN) (later (FactU.keeps (RatO.keeps _)) h2 k1 hN) (rcv_un (HV.out.2.2.below (br.drew.trans k1)) hA) k k hlb hlb (by omega)).mono ?_
   rintro e w' ⟨v,rfl,hb,hr⟩
   exact hK _ _ hb hr,?_⟩
  simp only [Act.put,nrA,nrB,nrC,Nat.reduceAdd]
  refine ⟨fun f w1 A1 m1 k1 hA hN hAm hm0 e hz hd K hK => by
   simp only [e] at hK ⊢
   have i1 : RatP (a * a) (f 5) w1 (Un A A1) := hd 5 (by simp)
   have i2 : RatP (b * b) (f 10) w1 (Un A A1) := hd 10 (by simp)
   go_simp
   refine (RAdd_any m1 _ _ _ _ _ _ w1 hz (by decide) noW_zRat i1 i2 (k + k) (k + k) (RL_mul hla hla) (RL_mul hlb hlb) (by omega)).mono ?_
   rintro e w' ⟨rfl,hp⟩
   exact hK _ w' hp.1 (hp.ratU (HV.out.2.2.below (br.drew.trans k1)) hA hm0 (fun b hb => HV.out.2.2.lt hb)),?_⟩
  intro f w1 k1 hF
  have i0 : RatP (a * a) (f 5) w1 (A) := FactU.done (RatP.keeps _) hF.1.1.2
  have i1 : RatP (b * b) (f 10) w1 (A) := FactU.done (RatP.keeps _) hF.1.2
  have i2 : RatP (a * a + b * b) (f 11) w1 (A) := FactU.done (RatP.keeps _) hF.2
  clear hF
  simp only [Act.put,nrA,nrB,nrC]
  generalize f 5 = v0 at *
  generalize f 10 = v1 at *
  generalize f 11 = v2 at *
  have hb1 : Below W.heap.size W w1 := br.drew.trans k1
  have hbw := HV.out.2.1.trans (hb1.mono HV.out.2.1.size)
  have HE := Lib.hid (And.intro i2 hbw)
  clear e0 e1 h1 h2 i0 i1 i2 hbw hb1 k1
  go_wp2_with fail
  go_ret
  exact ⟨v2,rfl,HE.out.2,HE.out.1⟩
set_option maxRecDepth 100000 in
set_option maxHeartbeats 3200000 in
theorem NSub_any (a b c d : Rat) (v v' : Value) (A : Nat → Prop) (w : World) (hv : NumO a b v w A) (hv' : NumO c d v' w A) (hA : Rcv A w) (k l : Nat) (hla : RL a k) (hlb : RL b k) (hlc : RL c l) (hld : RL d l) (hkl : k + l + (k + l) < 137438953472) :
  Calls Tryz.prog 99 #[v,v'] w fun e w' => ∃ u,e = .returned u ∧ Below w.heap.size w w' ∧ NumO (a - c) (b - d) u w' A := by
 obtain ⟨u1,u2,rfl,h1,h2⟩ := hv
 obtain ⟨u3,u4,rfl,h3,h4⟩ := hv'
 obtain ⟨W,HV,hs1,hs2,e0,e1,e2,e3⟩ := box_two w u1 u2 u3 u4 A hA
 have h1 := new_more (RatO.keeps a) (n := w.heap.size + 2) HV.out.2.1 (by omega) h1
 have h2 := new_more (RatO.keeps b) (n := w.heap.size + 2) HV.out.2.1 (by omega) h2
 have h3 := new_more (RatO.keeps c) (n := w.heap.size + 2) HV.out.2.1 (by omega) h3
 have h4 := new_more (RatO.keeps d) (n := w.heap.size + 2) HV.out.2.1 (by omega) h4
 clear hA
 go_enter Tryz.func99,Tryz.ntmps99
 go_wp2_with fail
 rw [← HV.out.1]
 refine wp_region_inv [(.new zR,[]),(.lit,[]),(.lit,[]),(.val,[]),(.lit,[]),(.lit,[]),(.val,[]),(.on 0 zR,[3,6]),(.new zR,[]),(.lit,[]),(.lit,[]),(.val,[]),(.lit,[]),(.lit,[]),(.val,[]),(.on 8 zR,[11,14])]
  (pickF [(3,FactU (Mo A (w.heap.size + 2)) (RatP (a))),(6,FactU (Mo A (w.heap.size + 2)) (RatP (c))),(7,FactU (Mo A (w.heap.size + 2)) (RatP (a - c))),(11,FactU (Mo A (w.heap.size + 2)) (RatP (b))),(14,FactU (Mo A (w.heap.size + 2)) (RatP (d))),(15,FactU (Mo A (w.heap.size + 2)) (RatP (b - d)))]) (by kernel_rfl) ?_ ?_ (by simp [noW_zRat]) (by simp) (by kernel_rfl)
 ·exact keeps_pick (by simp only [List.mem_cons,List.not_mem_nil,or_false]; rintro p (rfl | rfl | rfl | rfl | rfl | rfl) <;> exact FactU.keeps (RatP.keeps _))
 ·refine ⟨fun f w1 => by go_simp,?_⟩
  refine ⟨_,fun f w1 h1 => by (have d0 := ct h1 hs1 e0; have d1 := ct h1 hs1 e1; have d2 := ct h1 hs2 e2; have d3 := ct h1 hs2 e3; go_simp; rfl),?_⟩
  refine ⟨_,fun f w1 h1 => by (have d0 := ct h1 hs1 e0; have d1 := ct h1 hs1 e1; have d2 := ct h1 hs2 e2; have d3 := ct h1 hs2 e3; go_simp; rfl),?_⟩
  simp only [Act.put,nrA,nrB,nrC,Nat.reduceAdd]
  refine ⟨fun f w1 A1 k1 hA hN hd K hK => by
   go_simp
   refine (erat_any a u1 (Un (Mo A (w.heap.size + 2)) A1) w1 (later (FactU.keeps (RatO.keeps _)) h1 k1 hN) (rcv_un (HV.out.2.2.1.below (br.drew.trans k1)) hA)).mono ?_
   rintro e w' ⟨v,rfl,hb,hr⟩
   exact hK _ _ hb hr,?_⟩
  refine ⟨_,fun f w1 h1 => by (have d0 := ct h1 hs1 e0; have d1 := ct h1 hs1 e1; have d2 := ct h1 hs2 e2; have d3 := ct h1 hs2 e3; go_simp; rfl),?_⟩
  refine ⟨_,fun f w1 h1 => by (have d0 := ct h1 hs1 e0; have d1 := ct h1 hs1 e1; have d2 := ct h1 hs2 e2; have d3 := ct h1 hs2 e3; go_simp; rfl),?_⟩
  simp only [Act.put,nrA,nrB,nrC,Nat.reduceAdd]
  refine ⟨fun f w1 A1 k1 hA hN hd K hK => by
   go_simp
   refine (erat_any c u3 (Un (Mo A (w.heap.size + 2)) A1) w1 (later (FactU.keeps (RatO.keeps _)) h3 k1 hN) (rcv_un (HV.out.2.2.1.below (br.drew.trans k1)) hA)).mono ?_
   rintro e w' ⟨v,rfl,hb,hr⟩
   exact hK _ _ hb hr,?_⟩
  simp only [Act.put,nrA,nrB,nrC,Nat.reduceAdd]
  refine ⟨fun f w1 A1 m1 k1 hA hN hAm hm0 e hz hd K hK => by
   simp only [e] at hK ⊢
   have i1 : RatP (a) (f 3) w1 (Un (Mo A (w.heap.size + 2)) A1) := hd 3 (by simp)
   have i2 : RatP (c) (f 6) w1 (Un (Mo A (w.heap.size + 2)) A1) := hd 6 (by simp)
   go_simp
   refine (RSub_any m1 _ _ _ _ _ _ w1 hz (by decide) noW_zRat i1 i2 (k) (l) hla hlc (by omega)).mono ?_
   rintro e w' ⟨rfl,hp⟩
   exact hK _ w' hp.1 (hp.ratU (HV.out.2.2.1.below (br.drew.trans k1)) hA hm0 (fun b hb => HV.out.2.2.1.lt hb)),?_⟩
  refine ⟨fun f w1 => by go_simp,?_⟩
  refine ⟨_,fun f w1 h1 => by (have d0 := ct h1 hs1 e0; have d1 := ct h1 hs1 e1; have d2 := ct h1 hs2 e2; have d3 := ct h1 hs2 e3; go_simp; rfl),?_⟩
  refine ⟨_,fun f w1 h1 => by (have d0 := ct h1 hs1 e0; have d1 := ct h1 hs1 e1; have d2 := ct h1 hs2 e2; have d3 := ct h1 hs2 e3; go_simp; rfl),?_⟩
  simp only [Act.put,nrA,nrB,nrC,Nat.reduceAdd]
  refine ⟨fun f w1 A1 k1 hA hN hd K hK => by
   go_simp
   refine (erat_any b u2 (Un (Mo A (w.heap.size + 2)) A1) w1 (later (FactU.keeps (RatO.keeps _)) h2 k1 hN) (rcv_un (HV.out.2.2.1.below (br.drew.trans k1)) hA)).mono ?_
   rintro e w' ⟨v,rfl,hb,hr⟩
   exact hK _ _ hb hr,?_⟩
  refine ⟨_,fun f w1 h1 => by (have d0 := ct h1 hs1 e0; have d1 := ct h1 hs1 e1; have d2 := ct h1 hs2 e2; have d3 := ct h1 hs2 e3; go_simp; rfl),?_⟩
  refine ⟨_,fun f w1 h1 => by (have d0 := ct h1 hs1 e0; have d1 := ct h1 hs1 e1; have d2 := ct h1 hs2 e2; have d3 := ct h1 hs2 e3; go_simp; rfl),?_⟩
  simp only [Act.put,nrA,nrB,nrC,Nat.reduceAdd]
  refine ⟨fun f w1 A1 k1 hA hN hd K hK => by
   go_simp
   refine (erat_any d u4 (Un (Mo A (w.heap.size + 2)) A1) w1 (later (FactU.keeps (RatO.keeps _)) h4 k1 hN) (rcv_un (HV.out.2.2.1.below (br.drew.trans k1)) hA)).mono ?_
   rintro e w' ⟨v,rfl,hb,hr⟩
   exact hK _ _ hb hr,?_⟩
  simp only [Act.put,nrA,nrB,nrC,Nat.reduceAdd]
  refine ⟨fun f w1 A1 m1 k1 hA hN hAm hm0 e hz hd K hK => by
   simp only [e] at hK ⊢
   have i1 : RatP (b) (f 11) w1 (Un (Mo A (w.heap.size + 2)) A1) := hd 11 (by simp)
   have i2 : RatP (d) (f 14) w1 (Un (Mo A (w.heap.size + 2)) A1) := hd 14 (by simp)
   go_simp
   refine (RSub_any m1 _ _ _ _ _ _ w1 hz (by decide) noW_zRat i1 i2 (k) (l) hlb hld (by omega)).mono ?_
   rintro e w' ⟨rfl,hp⟩
   exact hK _ w' hp.1 (hp.ratU (HV.out.2.2.1.below (br.drew.trans k1)) hA hm0 (fun b hb => HV.out.2.2.1.lt hb)),?_⟩
  intro f w1 k1 hF
  have i0 : RatP (a) (f 3) w1 ((Mo A (w.heap.size + 2))) := FactU.done (RatP.keeps _) hF.1.1.1.1.1.2
  have i1 : RatP (c) (f 6) w1 ((Mo A (w.heap.size + 2))) := FactU.done (RatP.keeps _) hF.1.1.1.1.2
  have i2 : RatP (a - c) (f 7) w1 ((Mo A (w.heap.size + 2))) := FactU.done (RatP.keeps _) hF.1.1.1.2
  have i3 : RatP (b) (f 11) w1 ((Mo A (w.heap.size + 2))) := FactU.done (RatP.keeps _) hF.1.1.2
  have i4 : RatP (d) (f 14) w1 ((Mo A (w.heap.size + 2))) := FactU.done (RatP.keeps _) hF.1.2
  have i5 : RatP (b - d) (f 15) w1 ((Mo A (w.heap.size + 2))) := FactU.done (RatP.keeps _) hF.2
  clear hF
  simp only [Act.put,nrA,nrB,nrC]
  generalize f 3 = v0 at *
  generalize f 6 = v1 at *
  generalize f 7 = v2 at *
  generalize f 11 = v3 at *
  generalize f 14 = v4 at *
  generalize f 15 = v5 at *
  have hb1 : Below W.heap.size W w1 := br.drew.trans k1
  obtain ⟨c0,c1,f0,f1⟩ := HV.out.2.2.2 w1 hb1
  have hbw := HV.out.2.1.trans (hb1.mono HV.out.2.1.size)
  have HE := Lib.hid (And.intro i2 (And.intro i5 hbw))
  obtain ⟨m1,rfl⟩ := i2.shape
  obtain ⟨m2,rfl⟩ := i5.shape
  clear e0 e1 e2 e3 h1 h2 h3 h4 i0 i1 i2 i3 i4 i5 hbw hb1 k1
  go_wp2_with fail
  refine bodyPost_ret (v := .agg #[.pointer (some ⟨m1,0,none⟩),.pointer (some ⟨m2,0,none⟩)]) (by simp [results,Tryz.results99,go_sem,c0,c1]) rfl ?_
  exact put_num HE.out.2.2 HE.out.1 HE.out.2.1 (by omega)
set_option maxRecDepth 100000 in
set_option maxHeartbeats 3200000 in
theorem NMul_any (a b c d : Rat) (v v' : Value) (A : Nat → Prop) (w : World) (hv : NumO a b v w A) (hv' : NumO c d v' w A) (hA : Rcv A w) (k l : Nat) (hla : RL a k) (hlb : RL b k) (hlc : RL c l) (hld : RL d l) (hkl : k + l + (k + l) < 137438953472) :
  Calls Tryz.prog 61 #[v,v'] w fun e w' => ∃ u,e = .returned u ∧ Below w.heap.size w w' ∧ NumO (a * c - b * d) (a * d + b * c) u w' A := by
 obtain ⟨u1,u2,rfl,h1,h2⟩ := hv
 obtain ⟨u3,u4,rfl,h3,h4⟩ := hv'
 obtain ⟨W,HV,hs1,hs2,e0,e1,e2,e3⟩ := box_two w u1 u2 u3 u4 A hA
 have h1 := new_more (RatO.keeps a) (n := w.heap.size + 2) HV.out.2.1 (by omega) h1
 have h2 := new_more (RatO.keeps b) (n := w.heap.size + 2) HV.out.2.1 (by omega) h2
 have h3 := new_more (RatO.keeps c) (n := w.heap.size + 2) HV.out.2.1 (by omega) h3
 have h4 := new_more (RatO.keeps d) (n := w.heap.size + 2) HV.out.2.1 (by omega) h4
 clear hA
 go_enter Tryz.func61,Tryz.ntmps61
 go_wp2_with fail
 rw [← HV.out.1]
 refine wp_region_inv [(.new zR,[]),(.lit,[]),(.lit,[]),(.lit,[]),(.lit,[]),(.val,[]),(.lit,[]),(.lit,[]),(.lit,[]),(.lit,[]),(.val,[]),(.on 0 zR,[5,10]),(.new zR,[]),(.lit,[]),(.lit,[]),(.lit,[]),(.lit,[]),(.val,[]),(.lit,[]),(.lit,[]),(.lit,[]),(.lit,[]),(.val,[]),(.on 12 zR,[17,22])]
  (pickF [(5,FactU (Mo A (w.heap.size + 2)) (RatP (a * c))),(10,FactU (Mo A (w.heap.size + 2)) (RatP (b * d))),(11,FactU (Mo A (w.heap.size + 2)) (RatP (a * c - b * d))),(17,FactU (Mo A (w.heap.size + 2)) (RatP (a * d))),(22,FactU (Mo A (w.heap.size + 2)) (RatP (b * c))),(23,FactU (Mo A (w.heap.size + 2)) (RatP (a * d + b * c)))]) (by kernel_rfl) ?_ ?_ (by simp [noW_zRat]) (by simp) (by kernel_rfl)
 ·exact keeps_pick (by simp only [List.mem_cons,List.not_mem_nil,or_false]; rintro p (rfl | rfl | rfl | rfl | rfl | rfl) <;> exact FactU.keeps (RatP.keeps _))
 ·refine ⟨fun f w1 => by go_simp,?_⟩
  refine ⟨_,fun f w1 h1 => by (have d0 := ct h1 hs1 e0; have d1 := ct h1 hs1 e1; have d2 := ct h1 hs2 e2; have d3 := ct h1 hs2 e3; go_simp; rfl),?_⟩
  refine ⟨_,fun f w1 h1 => by (have d0 := ct h1 hs1 e0; have d1 := ct h1 hs1 e1; have d2 := ct h1 hs2 e2; have d3 := ct h1 hs2 e3; go_simp; rfl),?_⟩
  refine ⟨_,fun f w1 h1 => by (have d0 := ct h1 hs1 e0; have d1 := ct h1 hs1 e1; have d2 := ct h1 hs2 e2; have d3 := ct h1 hs2 e3; go_simp; rfl),?_⟩
  refine ⟨_,fun f w1 h1 => by (have d0 := ct h1 hs1 e0; have d1 := ct h1 hs1 e1; have d2 := ct h1 hs2 e2; have d3 := ct h1 hs2 e3; go_simp; rfl),?_⟩
  simp only [Act.put,nrA,nrB,nrC,Nat.reduceAdd]
  refine ⟨fun f w1 A1 k1 hA hN hd K hK => by
   go_simp
   refine (emul_any a c u1 u3 (Un (Mo A (w.heap.size + 2)) A1) w1 (later (FactU.keeps (RatO.keeps _)) h1 k1 hN) (later (FactU.keeps (RatO.keeps _)) h3 k1 hN) (rcv_un (HV.out.2.2.1.below (br.drew.trans k1)) hA) k l hla hlc (by omega)).mono ?_
   rintro e w' ⟨v,rfl,hb,hr⟩
   exact hK _ _ hb hr,?_⟩
  refine ⟨_,fun f w1 h1 => by (have d0 := ct h1 hs1 e0; have d1 := ct h1 hs1 e1; have d2 := ct h1 hs2 e2; have d3 := ct h1 hs2 e3; go_simp; rfl),?_⟩
  refine ⟨_,fun f w1 h1 => by (have d0 := ct h1 hs1 e0; have d1 := ct h1 hs1 e1; have d2 := ct h1 hs2 e2; have d3 := ct h1 hs2 e3; go_simp; rfl),?_⟩
  refine ⟨_,fun f w1 h1 => by (have d0 := ct h1 hs1 e0; have d1 := ct h1 hs1 e1; have d2 := ct h1 hs2 e2; have d3 := ct h1 hs2 e3; go_simp; rfl),?_⟩
  refine ⟨_,fun f w1 h1 => by (have d0 := ct h1 hs1 e0; have d1 := ct h1 hs1 e1; have d2 := ct h1 hs2 e2; have d3 := ct h1 hs2 e3; go_simp; rfl),?_⟩
  simp only [Act.put,nrA,nrB,nrC,Nat.reduceAdd]
  refine ⟨fun f w1 A1 k1 hA hN hd K hK => by
   go_simp
   refine (emul_any b d u2 u4 (Un (Mo A (w.heap.size + 2)) A1) w1 (later (FactU.keeps (RatO.keeps _)) h2 k1 hN) (later (FactU.keeps (RatO.keeps _)) h4 k1 hN) (rcv_un (HV.out.2.2.1.below (br.drew.trans k1)) hA) k l hlb hld (by omega)).mono ?_
   rintro e w' ⟨v,rfl,hb,hr⟩
   exact hK _ _ hb hr,?_⟩
  simp only [Act.put,nrA,nrB,nrC,Nat.reduceAdd]
  refine ⟨fun f w1 A1 m1 k1 hA hN hAm hm0 e hz hd K hK => by
   simp only [e] at hK ⊢
   have i1 : RatP (a * c) (f 5) w1 (Un (Mo A (w.heap.size + 2)) A1) := hd 5 (by simp)
   have i2 : RatP (b * d) (f 10) w1 (Un (Mo A (w.heap.size + 2)) A1) := hd 10 (by simp)
   go_simp
   refine (RSub_any m1 _ _ _ _ _ _ w1 hz (by decide) noW_zRat i1 i2 (k + l) (k + l) (RL_mul hla hlc) (RL_mul hlb hld) (by omega)).mono ?_
   rintro e w' ⟨rfl,hp⟩
   exact hK _ w' hp.1 (hp.ratU (HV.out.2.2.1.below (br.drew.trans k1)) hA hm0 (fun b hb => HV.out.2.2.1.lt hb)),?_⟩
  refine ⟨fun f w1 => by go_simp,?_⟩
  refine ⟨_,fun f w1 h1 => by (have d0 := ct h1 hs1 e0; have d1 := ct h1 hs1 e1; have d2 := ct h1 hs2 e2; have d3 := ct h1 hs2 e3; go_simp; rfl),?_⟩
  refine ⟨_,fun f w1 h1 => by (have d0 := ct h1 hs1 e0; have d1 := ct h1 hs1 e1; have d2 := ct h1 hs2 e2; have d3 := ct h1 hs2 e3; go_simp; rfl),?_⟩
  refine ⟨_,fun f w1 h1 => by (have d0 := ct h1 hs1 e0; have d1 := ct h1 hs1 e1; have d2 := ct h1 hs2 e2; have d3 := ct h1 hs2 e3; go_simp; rfl),?_⟩
  refine ⟨_,fun f w1 h1 => by (have d0 := ct h1 hs1 e0; have d1 := ct h1 hs1 e1; have d2 := ct h1 hs2 e2; have d3 := ct h1 hs2 e3; go_simp; rfl),?_⟩
  simp only [Act.put,nrA,nrB,nrC,Nat.reduceAdd]
  refine ⟨fun f w1 A1 k1 hA hN hd K hK => by
   go_simp
   refine (emul_any a d u1 u4 (Un (Mo A (w.heap.size + 2)) A1) w1 (later (FactU.keeps (RatO.keeps _)) h1 k1 hN) (later (FactU.keeps (RatO.keeps _)) h4 k1 hN) (rcv_un (HV.out.2.2.1.below (br.drew.trans k1)) hA) k l hla hld (by omega)).mono ?_
   rintro e w' ⟨v,rfl,hb,hr⟩
   exact hK _ _ hb hr,?_⟩
  refine ⟨_,fun f w1 h1 => by (have d0 := ct h1 hs1 e0; have d1 := ct h1 hs1 e1; have d2 := ct h1 hs2 e2; have d3 := ct h1 hs2 e3; go_simp; rfl),?_⟩
  refine ⟨_,fun f w1 h1 => by (have d0 := ct h1 hs1 e0; have d1 := ct h1 hs1 e1; have d2 := ct h1 hs2 e2; have d3 := ct h1 hs2 e3; go_simp; rfl),?_⟩
  refine ⟨_,fun f w1 h1 => by (have d0 := ct h1 hs1 e0; have d1 := ct h1 hs1 e1; have d2 := ct h1 hs2 e2; have d3 := ct h1 hs2 e3; go_simp; rfl),?_⟩
  refine ⟨_,fun f w1 h1 => by (have d0 := ct h1 hs1 e0; have d1 := ct h1 hs1 e1; have d2 := ct h1 hs2 e2; have d3 := ct h1 hs2 e3; go_simp; rfl),?_⟩
  simp only [Act.put,nrA,nrB,nrC,Nat.reduceAdd]
  refine ⟨fun f w1 A1 k1 hA hN hd K hK => by
   go_simp
   refine (emul_any b c u2 u3 (Un (Mo A (w.heap.size + 2)) A1) w1 (later (FactU.keeps (RatO.keeps _)) h2 k1 hN) (later (FactU.keeps (RatO.keeps _)) h3 k1 hN) (rcv_un (HV.out.2.2.1.below (br.drew.trans k1)) hA) k l hlb hlc (by omega)).mono ?_
   rintro e w' ⟨v,rfl,hb,hr⟩
   exact hK _ _ hb hr,?_⟩
  simp only [Act.put,nrA,nrB,nrC,Nat.reduceAdd]
  refine ⟨fun f w1 A1 m1 k1 hA hN hAm hm0 e hz hd K hK => by
   simp only [e] at hK ⊢
   have i1 : RatP (a * d) (f 17) w1 (Un (Mo A (w.heap.size + 2)) A1) := hd 17 (by simp)
   have i2 : RatP (b * c) (f 22) w1 (Un (Mo A (w.heap.size + 2)) A1) := hd 22 (by simp)
   go_simp
   refine (RAdd_any m1 _ _ _ _ _ _ w1 hz (by decide) noW_zRat i1 i2 (k + l) (k + l) (RL_mul hla hld) (RL_mul hlb hlc) (by omega)).mono ?_
   rintro e w' ⟨rfl,hp⟩
   exact hK _ w' hp.1 (hp.ratU (HV.out.2.2.1.below (br.drew.trans k1)) hA hm0 (fun b hb => HV.out.2.2.1.lt hb)),?_⟩
  intro f w1 k1 hF
  have i0 : RatP (a * c) (f 5) w1 ((Mo A (w.heap.size + 2))) := FactU.done (RatP.keeps _) hF.1.1.1.1.1.2
  have i1 : RatP (b * d) (f 10) w1 ((Mo A (w.heap.size + 2))) := FactU.done (RatP.keeps _) hF.1.1.1.1.2
  have i2 : RatP (a * c - b * d) (f 11) w1 ((Mo A (w.heap.size + 2))) := FactU.done (RatP.keeps _) hF.1.1.1.2
  have i3 : RatP (a * d) (f 17) w1 ((Mo A (w.heap.size + 2))) := FactU.done (RatP.keeps _) hF.1.1.2
  have i4 : RatP (b * c) (f 22) w1 ((Mo A (w.heap.size + 2))) := FactU.done (RatP.keeps _) hF.1.2
  have i5 : RatP (a * d + b * c) (f 23) w1 ((Mo A (w.heap.size + 2))) := FactU.done (RatP.keeps _) hF.2
  clear hF
  simp only [Act.put,nrA,nrB,nrC]
  generalize f 5 = v0 at *
  generalize f 10 = v1 at *
  generalize f 11 = v2 at *
  generalize f 17 = v3 at *
  generalize f 22 = v4 at *
  generalize f 23 = v5 at *
  have hb1 : Below W.heap.size W w1 := br.drew.trans k1
  obtain ⟨c0,c1,f0,f1⟩ := HV.out.2.2.2 w1 hb1
  have hbw := HV.out.2.1.trans (hb1.mono HV.out.2.1.size)
  have HE := Lib.hid (And.intro i2 (And.intro i5 hbw))
  obtain ⟨m1,rfl⟩ := i2.shape
  obtain ⟨m2,rfl⟩ := i5.shape
  clear e0 e1 e2 e3 h1 h2 h3 h4 i0 i1 i2 i3 i4 i5 hbw hb1 k1
  go_wp2_with fail
  refine bodyPost_ret (v := .agg #[.pointer (some ⟨m1,0,none⟩),.pointer (some ⟨m2,0,none⟩)]) (by simp [results,Tryz.results61,go_sem,c0,c1]) rfl ?_
  exact put_num HE.out.2.2 HE.out.1 HE.out.2.1 (by omega)
set_option maxRecDepth 100000 in
set_option maxHeartbeats 1600000 in
theorem NConj_any (a b : Rat) (v : Value) (A : Nat → Prop) (w : World) (hv : NumO a b v w A) (hA : Rcv A w) (hlb : RL b 137438953472) :
  Calls Tryz.prog 66 #[v] w fun e w' => ∃ u,e = .returned u ∧ Below w.heap.size w w' ∧ NumO a (-b) u w' A := by
 obtain ⟨u1,u2,rfl,h1,h2⟩ := hv
 obtain ⟨W,HV,hs2,e0,e1⟩ := box_one w u1 u2 A hA
 have h1 := new_more (RatO.keeps a) (n := w.heap.size + 1) HV.out.2.1 (by omega) h1
 have h2 := new_more (RatO.keeps b) (n := w.heap.size + 1) HV.out.2.1 (by omega) h2
 clear hA
 go_enter Tryz.func66,Tryz.ntmps66
 go_wp2_with fail
 rw [← HV.out.1]
 refine wp_region_inv [(.lit,[]),(.lit,[]),(.val,[]),(.new zR,[]),(.lit,[]),(.lit,[]),(.val,[]),(.on 3 zR,[6])]
  (pickF [(2,FactU (Mo A (w.heap.size + 1)) (RatP (a))),(6,FactU (Mo A (w.heap.size + 1)) (RatP (b))),(7,FactU (Mo A (w.heap.size + 1)) (RatP (-b)))]) (by kernel_rfl) ?_ ?_ (by simp [noW_zRat]) (by simp) (by kernel_rfl)
 ·exact keeps_pick (by simp only [List.mem_cons,List.not_mem_nil,or_false]; rintro p (rfl | rfl | rfl) <;> exact FactU.keeps (RatP.keeps _))
 ·refine ⟨_,fun f w1 h1 => by (have d0 := ct h1 hs2 e0; have d1 := ct h1 hs2 e1; go_simp; rfl),?_⟩
  refine ⟨_,fun f w1 h1 => by (have d0 := ct h1 hs2 e0; have d1 := ct h1 hs2 e1; go_simp; rfl),?_⟩
  simp only [Act.put,nrA,nrB,nrC,Nat.reduceAdd]
  refine ⟨fun f w1 A1 k1 hA hN hd K hK => by
   go_simp
   refine (erat_any a u1 (Un (Mo A (w.heap.size + 1)) A1) w1 (later (FactU.keeps (RatO.keeps _)) h1 k1 hN) (rcv_un (HV.out.2.2.1.below (br.drew.trans k1)) hA)).mono ?_
   rintro e w' ⟨v,rfl,hb,hr⟩
   exact hK _ _ hb hr,?_⟩
  refine ⟨fun f w1 => by go_simp,?_⟩
  refine ⟨_,fun f w1 h1 => by (have d0 := ct h1 hs2 e0; have d1 := ct h1 hs2 e1; go_simp; rfl),?_⟩
  refine ⟨_,fun f w1 h1 => by (have d0 := ct h1 hs2 e0; have d1 := ct h1 hs2 e1; go_simp; rfl),?_⟩
  simp only [Act.put,nrA,nrB,nrC,Nat.reduceAdd]
  refine ⟨fun f w1 A1 k1 hA hN hd K hK => by
   go_simp
   refine (erat_any b u2 (Un (Mo A (w.heap.size + 1)) A1) w1 (later (FactU.keeps (RatO.keeps _)) h2 k1 hN) (rcv_un (HV.out.2.2.1.below (br.drew.trans k1)) hA)).mono ?_
   rintro e w' ⟨v,rfl,hb,hr⟩
   exact hK _ _ hb hr,?_⟩
  simp only [Act.put,nrA,nrB,nrC,Nat.reduceAdd]
  refine ⟨fun f w1 A1 m1 k1 hA hN hAm hm0 e hz hd K hK => by
   simp only [e] at hK ⊢
   have i1 : RatP (b) (f 6) w1 (Un (Mo A (w.heap.size + 1)) A1) := hd 6 (by simp)
   go_simp
   refine (RNeg_any m1 _ _ _ _ w1 hz (by decide) noW_zRat i1 hlb).mono ?_
   rintro e w' ⟨rfl,hp⟩
   exact hK _ w' hp.1 (hp.ratU (HV.out.2.2.1.below (br.drew.trans k1)) hA hm0 (fun b hb => HV.out.2.2.1.lt hb)),?_⟩
  intro f w1 k1 hF
  have i0 : RatP (a) (f 2) w1 ((Mo A (w.heap.size + 1))) := FactU.done (RatP.keeps _) hF.1.1.2
  have i1 : RatP (b) (f 6) w1 ((Mo A (w.heap.size + 1))) := FactU.done (RatP.keeps _) hF.1.2
  have i2 : RatP (-b) (f 7) w1 ((Mo A (w.heap.size + 1))) := FactU.done (RatP.keeps _) hF.2
  clear hF
  simp only [Act.put,nrA,nrB,nrC]
  generalize f 2 = v0 at *
  generalize f 6 = v1 at *
  generalize f 7 = v2 at *
  have hb1 : Below W.heap.size W w1 := br.drew.trans k1
  obtain ⟨c0,c1,f0,f1⟩ := HV.out.2.2.2 w1 hb1
  have hbw := HV.out.2.1.trans (hb1.mono HV.out.2.1.size)
  have HE := Lib.hid (And.intro i0 (And.intro i2 hbw))
  obtain ⟨m1,rfl⟩ := i0.shape
  obtain ⟨m2,rfl⟩ := i2.shape
  clear e0 e1 h1 h2 i0 i1 i2 hbw hb1 k1
  go_wp2_with fail
  refine bodyPost_ret (v := .agg #[.pointer (some ⟨m1,0,none⟩),.pointer (some ⟨m2,0,none⟩)]) (by simp [results,Tryz.results66,go_sem,c0,c1]) rfl ?_
  exact put_num HE.out.2.2 HE.out.1 HE.out.2.1 (by omega)
end Go.Proofs.YtepefgkihnjjaaaGreat
