/- Laws for the walk. -/
import Derived.Test.YtepefgkihnjjaaaGreatZzz
import Derived.Test.YtepefgkihnjjaaaGreatZao
set_option linter.unusedVariables false
namespace Go.Proofs.YtepefgkihnjjaaaGreat
open Go.RowKit Tr
set_option maxRecDepth 100000 in
set_option maxHeartbeats 3200000 in
theorem XDiv_any (a b c d n : Rat) (hn : n = c * c + d * d) (hn0 : n ≠ 0) (v v' : Value) (A : Nat → Prop) (w : World) (hv : CP a b v w A) (hv' : CP c d v' w A) (hA : Rcv A w) (k l : Nat) (hla : RL a k) (hlb : RL b k) (hlc : RL c l) (hld : RL d l) (hkl : (k + l + (k + l) + 1) + (l + l + (l + l) + 1) < 137438953472) :
  Calls Tryz.prog 79 #[v,v'] w fun e w' => ∃ u,e = .returned u ∧ Below w.heap.size w w' ∧ CP ((a * c - b * (-d)) * n⁻¹) ((a * (-d) + b * c) * n⁻¹) u w' A := by
 have hv0 := new_more (CP.keeps a b) (n := w.heap.size + 2) br (by omega) hv
 have hv0' := new_more (CP.keeps c d) (n := w.heap.size + 2) br (by omega) hv'
 obtain ⟨u1,u2,rfl,h1,h2⟩ := hv
 obtain ⟨u3,u4,rfl,h3,h4⟩ := hv'
 clear h1 h2 h3 h4
 obtain ⟨W,HV,hs1,hs2,e0,e1,e2,e3⟩ := xbox_two w u1 u2 u3 u4 A hA
 have hx := Fact.Keeps.below (FactU.keeps (CP.keeps a b)) HV.out.2.1 hv0
 have hy := Fact.Keeps.below (FactU.keeps (CP.keeps c d)) HV.out.2.1 hv0'
 have HN := Lib.hid (And.intro hn hn0)
 clear hA hv0 hv0' hn hn0
 have lm1 : RL (a * c - b * (-d)) (k + l + (k + l) + 1) := RL_sub (RL_mul hla hlc) (RL_mul hlb (RL_neg hld))
 have lm2 : RL (a * (-d) + b * c) (k + l + (k + l) + 1) := RL_add (RL_mul hla (RL_neg hld)) (RL_mul hlb hlc)
 have ln : RL n (l + l + (l + l) + 1) := by rw [HN.out.1]; exact RL_add (RL_mul hlc hlc) (RL_mul hld hld)
 have li : RL n⁻¹ (l + l + (l + l) + 1) := RL_inv HN.out.2 ln
 go_enter Tryz.func79,Tryz.ntmps79
 go_wp2_with fail
 rw [← HV.out.1]
 refine wp_region_inv [(.lit,[]),(.lit,[]),(.val,[]),(.val,[2]),(.new zR,[]),(.lit,[]),(.val,[]),(.on 4 zR,[6]),(.val,[3,7])]
  (pickF [(2,FactU (Mo A (w.heap.size + 2)) (CP c (-d))),(3,FactU (Mo A (w.heap.size + 2)) (CP (a * c - b * (-d)) (a * (-d) + b * c))),(6,FactU (Mo A (w.heap.size + 2)) (RatP n)),(7,FactU (Mo A (w.heap.size + 2)) (RatP n⁻¹)),(8,FactU (Mo A (w.heap.size + 2)) (CP ((a * c - b * (-d)) * n⁻¹) ((a * (-d) + b * c) * n⁻¹)))]) (by kernel_rfl) ?_ ?_ (by simp [noW_zRat]) (by simp) (by kernel_rfl)
 ·exact keeps_pick (by simp only [List.mem_cons,List.not_mem_nil,or_false]; rintro p (rfl | rfl | rfl | rfl | rfl) <;> first | exact FactU.keeps (RatP.keeps _) | exact FactU.keeps (CP.keeps _ _))
 ·refine ⟨_,fun f w1 h1 => by (have d0 := ct h1 hs1 e0; have d1 := ct h1 hs1 e1; have d2 := ct h1 hs2 e2; have d3 := ct h1 hs2 e3; go_simp; rfl),?_⟩
  refine ⟨_,fun f w1 h1 => by (have d0 := ct h1 hs1 e0; have d1 := ct h1 hs1 e1; have d2 := ct h1 hs2 e2; have d3 := ct h1 hs2 e3; go_simp; rfl),?_⟩
  simp only [Act.put,nrA,nrB,nrC,Nat.reduceAdd]
  refine ⟨fun f w1 A1 k1 hA hN hd K hK => by
   go_simp
   refine (XConj_any c d _ (Un (Mo A (w.heap.size + 2)) A1) w1 (later (FactU.keeps (CP.keeps _ _)) hy k1 hN) (rcv_un (HV.out.2.2.1.below (br.drew.trans k1)) hA) (hld.mono (by omega))).mono ?_
   rintro e w' ⟨v,rfl,hb,hr⟩
   exact hK _ _ hb hr,?_⟩
  simp only [Act.put,nrA,nrB,nrC,Nat.reduceAdd]
  refine ⟨fun f w1 A1 k1 hA hN hd K hK => by
   have i2 : CP c (-d) (f 2) w1 (Un (Mo A (w.heap.size + 2)) A1) := hd 2 (by simp)
   go_simp
   refine (XMul_any a b c (-d) _ _ (Un (Mo A (w.heap.size + 2)) A1) w1 (later (FactU.keeps (CP.keeps _ _)) hx k1 hN) i2 (rcv_un (HV.out.2.2.1.below (br.drew.trans k1)) hA) k l hla hlb hlc (RL_neg hld) (by omega)).mono ?_
   rintro e w' ⟨v,rfl,hb,hr⟩
   exact hK _ _ hb hr,?_⟩
  refine ⟨fun f w1 => by go_simp,?_⟩
  refine ⟨_,fun f w1 h1 => by (have d0 := ct h1 hs1 e0; have d1 := ct h1 hs1 e1; have d2 := ct h1 hs2 e2; have d3 := ct h1 hs2 e3; go_simp; rfl),?_⟩
  simp only [Act.put,nrA,nrB,nrC,Nat.reduceAdd]
  refine ⟨fun f w1 A1 k1 hA hN hd K hK => by
   go_simp
   refine (XNorm_any c d _ (Un (Mo A (w.heap.size + 2)) A1) w1 (later (FactU.keeps (CP.keeps _ _)) hy k1 hN) (rcv_un (HV.out.2.2.1.below (br.drew.trans k1)) hA) l hlc hld (by omega)).mono ?_
   rintro e w' ⟨v,rfl,hb,hr⟩
   rw [← HN.out.1] at hr
   exact hK _ _ hb hr,?_⟩
  simp only [Act.put,nrA,nrB,nrC,Nat.reduceAdd]
  refine ⟨fun f w1 A1 m1 k1 hA hN hAm hm0 e hz hd K hK => by
   simp only [e] at hK ⊢
   have i6 : RatP n (f 6) w1 (Un (Mo A (w.heap.size + 2)) A1) := hd 6 (by simp)
   go_simp
   refine (RInv_any m1 _ n HN.out.2 _ _ w1 hz (by decide) noW_zRat i6 _ ln (by omega)).mono ?_
   rintro e w' ⟨rfl,hp⟩
   exact hK _ w' hp.1 (hp.ratU (HV.out.2.2.1.below (br.drew.trans k1)) hA hm0 (fun b hb => HV.out.2.2.1.lt hb)),?_⟩
  simp only [Act.put,nrA,nrB,nrC,Nat.reduceAdd]
  refine ⟨fun f w1 A1 k1 hA hN hd K hK => by
   have i3 : CP (a * c - b * (-d)) (a * (-d) + b * c) (f 3) w1 (Un (Mo A (w.heap.size + 2)) A1) := hd 3 (by simp)
   have i7 : RatP n⁻¹ (f 7) w1 (Un (Mo A (w.heap.size + 2)) A1) := hd 7 (by simp)
   go_simp
   refine (XScale_any _ _ _ _ _ (Un (Mo A (w.heap.size + 2)) A1) w1 i3 i7 (rcv_un (HV.out.2.2.1.below (br.drew.trans k1)) hA) _ _ lm1 lm2 li hkl).mono ?_
   rintro e w' ⟨v,rfl,hb,hr⟩
   exact hK _ _ hb hr,?_⟩
  intro f w1 k1 hF
  have i8 : CP ((a * c - b * (-d)) * n⁻¹) ((a * (-d) + b * c) * n⁻¹) (f 8) w1 (Mo A (w.heap.size + 2)) := FactU.done (CP.keeps _ _) hF.2
  clear hF
  simp only [Act.put,nrA,nrB,nrC]
  generalize f 2 = x2
  generalize f 3 = x3
  generalize f 6 = x6
  generalize f 7 = x7
  generalize f 8 = x8 at *
  obtain ⟨y1,y2,rfl,j1,j2⟩ := i8
  have hb1 : Below W.heap.size W w1 := br.drew.trans k1
  obtain ⟨c0,c1,f0,f1⟩ := HV.out.2.2.2 w1 hb1
  have HE := Lib.hid (And.intro j1 (And.intro j2 (HV.out.2.1.trans (hb1.mono HV.out.2.1.size))))
  obtain ⟨m1,rfl⟩ := j1.shape
  obtain ⟨m2,rfl⟩ := j2.shape
  clear e0 e1 e2 e3 j1 j2 hb1 k1 hx hy lm1 lm2 ln li
  go_wp2_with fail
  refine bodyPost_ret (v := .agg #[.pointer (some ⟨m1,0,none⟩),.pointer (some ⟨m2,0,none⟩)]) (by simp [results,Tryz.results79,go_sem,c0,c1]) rfl ?_
  exact put_c HE.out.2.2 HE.out.1 HE.out.2.1 (by omega)
end Go.Proofs.YtepefgkihnjjaaaGreat
namespace Go.Proofs.YtepefgkihnjjaaaGreat
open Go.RowKit Tr
def encG (a b : Rat) : Value := .agg #[.bool (decide (a.num < 0)),.string (strN a.num.natAbs),.bool false,.string (strN a.den),.bool (decide (b.num < 0)),.string (strN b.num.natAbs),.bool false,.string (strN b.den)]
theorem new_eight (w : World) (x0 x1 x2 x3 x4 x5 x6 x7 : Value) (T : TypeId) {w1 : World} (h : Below (w.alloc (.cells #[x0,x1,x2,x3,x4,x5,x6,x7] T)).heap.size (w.alloc (.cells #[x0,x1,x2,x3,x4,x5,x6,x7] T)) w1) :
  w1.cell? ⟨w.heap.size,0,none⟩ = some x0 ∧ w1.cell? ⟨w.heap.size,1,none⟩ = some x1 ∧ w1.cell? ⟨w.heap.size,2,none⟩ = some x2 ∧ w1.cell? ⟨w.heap.size,3,none⟩ = some x3 ∧ w1.cell? ⟨w.heap.size,4,none⟩ = some x4 ∧ w1.cell? ⟨w.heap.size,5,none⟩ = some x5 ∧ w1.cell? ⟨w.heap.size,6,none⟩ = some x6 ∧ w1.cell? ⟨w.heap.size,7,none⟩ = some x7 := by
 have e := (h.block w.heap.size (by simp)).trans (heap_alloc_new w _)
 simp [World.cell?,e]
theorem frozen_eight (w : World) (x0 x1 x2 x3 x4 x5 x6 x7 : Value) (T : TypeId) {w1 : World} (h : Below (w.alloc (.cells #[x0,x1,x2,x3,x4,x5,x6,x7] T)).heap.size (w.alloc (.cells #[x0,x1,x2,x3,x4,x5,x6,x7] T)) w1) :
  w1.frozen? ⟨w.heap.size,0,none⟩ = false ∧ w1.frozen? ⟨w.heap.size,1,none⟩ = false ∧ w1.frozen? ⟨w.heap.size,2,none⟩ = false ∧ w1.frozen? ⟨w.heap.size,3,none⟩ = false ∧ w1.frozen? ⟨w.heap.size,4,none⟩ = false ∧ w1.frozen? ⟨w.heap.size,5,none⟩ = false ∧ w1.frozen? ⟨w.heap.size,6,none⟩ = false ∧ w1.frozen? ⟨w.heap.size,7,none⟩ = false := by
 have e := (h.block w.heap.size (by simp)).trans (heap_alloc_new w _)
 simp [World.frozen?,e]
set_option maxRecDepth 100000 in
set_option maxHeartbeats 800000 in
theorem GInt_any (i j : Int) (hi0 : -9223372036854775808 ≤ i) (hi1 : i < 9223372036854775808) (hj0 : -9223372036854775808 ≤ j) (hj1 : j < 9223372036854775808) (w : World) :
  Calls Tryz.prog 14 #[.int .i64 i,.int .i64 j] w fun e w' => e = .returned (encG i j) ∧ Below w.heap.size w w' := by
 have hal : Below w.heap.size w (w.alloc (.cells #[.bool false,.string ⟨#[]⟩,.bool false,.string ⟨#[]⟩,.bool false,.string ⟨#[]⟩,.bool false,.string ⟨#[]⟩] 27)) := br.alloc (Nat.le_refl _) _
 have H1 := Lib.hid (fun w => FInt_any i hi0 hi1 w)
 have H2 := Lib.hid (fun w => FInt_any j hj0 hj1 w)
 obtain ⟨b1,t1,t2,he1⟩ := encF_two (i : Rat)
 obtain ⟨b2,t3,t4,he2⟩ := encF_two (j : Rat)
 have HE := Lib.hid (show encG i j = .agg #[.bool b1,.string t1,.bool false,.string t2,.bool b2,.string t3,.bool false,.string t4] by
  unfold encF at he1 he2
  simp only [Value.agg.injEq,Array.mk.injEq,List.cons.injEq,Value.bool.injEq,Value.string.injEq,and_true] at he1 he2
  unfold encG
  rw [he1.1,he1.2.1,he1.2.2.2,he2.1,he2.2.1,he2.2.2.2])
 rw [he1] at H1
 rw [he2] at H2
 have HA := Lib.hid hal
 clear he1 he2 hal
 go_enter Tryz.func14,Tryz.ntmps14
 go_wp2_with fail
 refine (H1.out _).mono ?_
 rintro e w1 ⟨rfl,hb1⟩
 go_wp2_with fail
 refine (H2.out _).mono ?_
 rintro e w2 ⟨rfl,hb2⟩
 have hb12 := hb1.trans (hb2.mono hb1.size)
 obtain ⟨c0,c1,c2,c3,c4,c5,c6,c7⟩ := new_eight w _ _ _ _ _ _ _ _ _ hb12
 obtain ⟨f0,f1,f2,f3,f4,f5,f6,f7⟩ := frozen_eight w _ _ _ _ _ _ _ _ _ hb12
 have HB := Lib.hid (HA.out.trans (hb12.mono (by simp)))
 clear hb1 hb2 hb12
 go_wp2_with fail
 refine bodyPost_ret (v := .agg #[.bool b1,.string t1,.bool false,.string t2,.bool b2,.string t3,.bool false,.string t4]) (by simp [results,Tryz.results14,go_sem,c0,c1,c2,c3,c4,c5,c6,c7]) rfl ⟨by rw [HE.out],?_⟩
 exact ((((((((HB.out.setCell (p := ⟨w.heap.size,0,none⟩) (Nat.le_refl _) _).setCell (p := ⟨w.heap.size,1,none⟩) (Nat.le_refl _) _).setCell (p := ⟨w.heap.size,2,none⟩) (Nat.le_refl _) _).setCell (p := ⟨w.heap.size,3,none⟩) (Nat.le_refl _) _).setCell (p := ⟨w.heap.size,4,none⟩) (Nat.le_refl _) _).setCell (p := ⟨w.heap.size,5,none⟩) (Nat.le_refl _) _).setCell (p := ⟨w.heap.size,6,none⟩) (Nat.le_refl _) _).setCell (p := ⟨w.heap.size,7,none⟩) (Nat.le_refl _) _)
open Classical in
noncomputable def okB (n1 n2 : Bool) (s1 s2 : ByteArray) : Bool := decide (FracOk (.agg #[.bool n1,.string s1,.bool n2,.string s2]))
theorem okB_iff {n1 n2 : Bool} {s1 s2 : ByteArray} : okB n1 n2 s1 s2 = true ↔ FracOk (.agg #[.bool n1,.string s1,.bool n2,.string s2]) := by unfold okB; simp
set_option maxRecDepth 100000 in
set_option maxHeartbeats 800000 in
theorem GMay_any (n1 n2 n3 n4 : Bool) (s1 s2 s3 s4 : ByteArray) (l1 : s1.size < 274877906944) (l2 : s2.size < 274877906944) (l3 : s3.size < 274877906944) (l4 : s4.size < 274877906944) (w : World) :
  Calls Tryz.prog 22 #[.agg #[.bool n1,.string s1,.bool n2,.string s2,.bool n3,.string s3,.bool n4,.string s4]] w fun e w' => e = .returned (.bool (okB n1 n2 s1 s2 && okB n3 n4 s3 s4)) ∧ Below w.heap.size w w' := by
 have H1 := Lib.hid (fun w => May_any n1 n2 s1 s2 l1 l2 _ okB_iff w)
 have H2 := Lib.hid (fun w => May_any n3 n4 s3 s4 l3 l4 _ okB_iff w)
 have HA := Lib.hid (show Below w.heap.size w (w.alloc (.cells #[.bool n1,.string s1,.bool n2,.string s2,.bool n3,.string s3,.bool n4,.string s4] 27)) from br.alloc (Nat.le_refl _) _)
 go_enter Tryz.func22,Tryz.ntmps22
 go_wp2_with fail
 refine (H1.out _).mono ?_
 rintro e w1 ⟨rfl,hb1⟩
 obtain ⟨e0,e1,e2,e3,e4,e5,e6,e7⟩ := new_eight w _ _ _ _ _ _ _ _ _ hb1
 cases c1 : okB n1 n2 s1 s2
 ·have HB := Lib.hid (HA.out.trans (hb1.mono (by simp)))
  clear hb1
  go_wp2
  all_goals go_ret
  all_goals exact ⟨by rw [c1]; rfl,HB.out⟩
 ·go_wp2_with fail
  refine (H2.out _).mono ?_
  rintro e w2 ⟨rfl,hb2⟩
  have HB := Lib.hid (HA.out.trans ((hb1.trans (hb2.mono hb1.size)).mono (by simp)))
  clear hb1 hb2
  obtain ⟨c2,hc2⟩ : ∃ c2,c2 = okB n3 n4 s3 s4 := ⟨_,rfl⟩
  rw [← hc2]
  have HC := Lib.hid hc2
  clear hc2
  go_wp2
  all_goals go_ret
  all_goals exact ⟨by rw [c1,← HC.out]; cases c2 <;> rfl,HB.out⟩
set_option maxRecDepth 100000 in
set_option maxHeartbeats 1600000 in
theorem GZero_any (n1 n2 n3 n4 : Bool) (s1 s2 s3 s4 : ByteArray) (r : Bool) (hr : r = true ↔ .agg #[.bool n1,.string s1,.bool n2,.string s2,.bool n3,.string s3,.bool n4,.string s4] = encG 0 0) (w : World) :
    Calls Tryz.prog 23 #[.agg #[.bool n1,.string s1,.bool n2,.string s2,.bool n3,.string s3,.bool n4,.string s4]] w fun e w' => e = .returned (.bool r) ∧ Below w.heap.size w w' := by
  have H1 := Lib.hid (fun w => GInt_any 0 0 (by decide) (by decide) (by decide) (by decide) w)
  obtain ⟨b1,t1,t2,b2,t3,t4,he⟩ : ∃ b1 t1 t2 b2 t3 t4,encG 0 0 = .agg #[.bool b1,.string t1,.bool false,.string t2,.bool b2,.string t3,.bool false,.string t4] := ⟨_,_,_,_,_,_,rfl⟩
  rw [show encG ((0 : Int) : Rat) ((0 : Int) : Rat) = encG 0 0 from rfl,he] at H1
  rw [he] at hr
  obtain ⟨W,hW⟩ : ∃ W,W = w.alloc (.cells #[.bool n1,.string s1,.bool n2,.string s2,.bool n3,.string s3,.bool n4,.string s4] 27) := ⟨_,rfl⟩
  obtain ⟨e0,e1,e2,e3,e4,e5,e6,e7⟩ := new_eight w (.bool n1) (.string s1) (.bool n2) (.string s2) (.bool n3) (.string s3) (.bool n4) (.string s4) 27 br
  rw [← hW] at e0 e1 e2 e3 e4 e5 e6 e7
  have hs : w.heap.size < W.heap.size := by rw [hW]; simp
  have hb : Below w.heap.size w W := by rw [hW]; exact br.alloc (Nat.le_refl _) _
  have HV := Lib.hid (And.intro hW (And.intro hb hr))
  clear hW hb hr he
  go_enter Tryz.func23,Tryz.ntmps23
  go_wp2_with fail
  rw [← HV.out.1]
  refine wp_region_inv [(.lit,[]),(.val,[])]
    (pickF [(1,fun v _ _ => v = .agg #[.bool b1,.string t1,.bool false,.string t2,.bool b2,.string t3,.bool false,.string t4])]) (by kernel_rfl) ?_ ?_ (by simp) (by simp) (by kernel_rfl)
  · exact keeps_pick (by simp only [List.mem_cons,List.not_mem_nil,or_false]; rintro p rfl; exact fun _ _ _ _ _ _ _ h => h)
  · refine ⟨_,fun f w1 h1 => by (have d0 := ct h1 hs e0; have d1 := ct h1 hs e1; have d2 := ct h1 hs e2; have d3 := ct h1 hs e3; have d4 := ct h1 hs e4; have d5 := ct h1 hs e5; have d6 := ct h1 hs e6; have d7 := ct h1 hs e7; go_simp; rfl),?_⟩
    simp only [Act.put,nrA,nrB,nrC,Nat.reduceAdd]
    refine ⟨fun f w1 A1 k1 hA hN hd K hK => by
      go_simp
      refine (H1.out w1).mono ?_
      rintro e w' ⟨rfl,hb⟩
      exact hK _ _ hb rfl,?_⟩
    intro f w1 k1 hF
    have i2 : f 1 = .agg #[.bool b1,.string t1,.bool false,.string t2,.bool b2,.string t3,.bool false,.string t4] := hF.2
    clear hF
    simp only [Act.put,nrA,nrB,nrC]
    rw [i2]
    clear i2
    have HB := Lib.hid (HV.out.2.1.trans ((br.drew.trans k1).mono HV.out.2.1.size))
    clear k1 e0 e1 e2 e3 e4 e5 e6 e7
    go_wp2
    all_goals (
      go_ret
      refine ⟨?_,HB.out⟩
      have hre := HV.out.2.2
      simp only [Value.agg.injEq,Array.mk.injEq,List.cons.injEq,Value.bool.injEq,Value.string.injEq,and_true] at hre
      simp only [toL_iff] at *
      first
        | (have hr : r = true := hre.2 (by simp [*])
           rw [hr]; rfl)
        | (have hr : r = false := by
             cases h : r
             · rfl
             · obtain ⟨a,b,c,d,e,f,g,h⟩ := hre.1 h
               exfalso
               subst_vars
               contradiction
           rw [hr]; rfl))
end Go.Proofs.YtepefgkihnjjaaaGreat
namespace Go.Proofs.YtepefgkihnjjaaaGreat
open Go.RowKit Tr
def zG : Value := .agg #[.bool false,.string ⟨#[]⟩,.bool false,.string ⟨#[]⟩,.bool false,.string ⟨#[]⟩,.bool false,.string ⟨#[]⟩]
def outG (a b : Rat) : Value := if ShortF a ∧ ShortF b then encG a b else zG
def outGC (a b : Rat) : Int := if ShortF a ∧ ShortF b then 0 else 4
theorem outF_four (q : Rat) : ∃ b1 t1 b2 t2,outF q = .agg #[.bool b1,.string t1,.bool b2,.string t2] := by
 unfold outF
 split
 ·exact ⟨_,_,_,_,rfl⟩
 ·exact ⟨_,_,_,_,rfl⟩
theorem outC_zero {q : Rat} : outC q = 0 ↔ ShortF q := by unfold outC; split <;> simp [*]
theorem outG_of {a b : Rat} (ha : ShortF a) (hb : ShortF b) {b1 b2 b3 b4 : Bool} {t1 t2 t3 t4 : ByteArray} (e1 : outF a = .agg #[.bool b1,.string t1,.bool b2,.string t2]) (e2 : outF b = .agg #[.bool b3,.string t3,.bool b4,.string t4]) : outG a b = .agg #[.bool b1,.string t1,.bool b2,.string t2,.bool b3,.string t3,.bool b4,.string t4] := by
 unfold outF at e1 e2
 rw [if_pos ha] at e1
 rw [if_pos hb] at e2
 unfold encF at e1 e2
 simp only [Value.agg.injEq,Array.mk.injEq,List.cons.injEq,Value.bool.injEq,Value.string.injEq,and_true] at e1 e2
 unfold outG
 rw [if_pos ⟨ha,hb⟩]
 unfold encG
 rw [e1.1,e1.2.1,e1.2.2.1,e1.2.2.2,e2.1,e2.2.1,e2.2.2.2]
 rw [e1.2.2.1] at e2
 rw [e2.2.2.1]
set_option maxRecDepth 100000 in
set_option maxHeartbeats 1600000 in
theorem XGauss_any (a b : Rat) (v : Value) (A : Nat → Prop) (w : World) (hv : CP a b v w A) (hla : RL a 137438953472) (hlb : RL b 137438953472) :
  Calls Tryz.prog 80 #[v] w fun e w' => e = .returned (.tuple #[outG a b,.int .i64 (outGC a b)]) ∧ Below w.heap.size w w' := by
 obtain ⟨u1,u2,rfl,h1,h2⟩ := hv
 obtain ⟨b1,t1,b2,t2,ea⟩ := outF_four a
 obtain ⟨b3,t3,b4,t4,eb⟩ := outF_four b
 obtain ⟨k1,hk1⟩ : ∃ k1,k1 = outC a := ⟨_,rfl⟩
 obtain ⟨k2,hk2⟩ : ∃ k2,k2 = outC b := ⟨_,rfl⟩
 obtain ⟨W0,hW0⟩ : ∃ W0,W0 = w.alloc (.cells #[u1,u2] 83) := ⟨_,rfl⟩
 have hz0 : W0.heap.size = w.heap.size + 1 := by rw [hW0]; simp
 obtain ⟨W,hW⟩ : ∃ W,W = W0.alloc (.cells #[.bool false,.string ⟨#[]⟩,.bool false,.string ⟨#[]⟩,.bool false,.string ⟨#[]⟩,.bool false,.string ⟨#[]⟩] 27) := ⟨_,rfl⟩
 have hb0 : Below w.heap.size w W0 := by rw [hW0]; exact br.alloc (Nat.le_refl _) _
 have hb1 : Below W0.heap.size W0 W := by rw [hW]; exact br.alloc (Nat.le_refl _) _
 have hb := hb0.trans (hb1.mono hb0.size)
 obtain ⟨e0,e1,_⟩ := new_two w u1 u2 83 (w1 := W) (by rw [← hW0]; exact hb1)
 have hlt : w.heap.size < W.heap.size := by have := hb1.size; omega
 have H1 := Lib.hid (XFrac_any a u1 A W (h1.below hb) hla)
 have H2 := Lib.hid (fun w' (h : Below W.heap.size W w') => XFrac_any b u2 A w' ((h2.below hb).below h) hlb)
 rw [ea,← hk1] at H1
 rw [eb,← hk2] at H2
 have HK := Lib.hid (And.intro (show k1 = 0 ↔ ShortF a by rw [hk1]; exact outC_zero) (And.intro (show k2 = 0 ↔ ShortF b by rw [hk2]; exact outC_zero) (And.intro ea eb)))
 have HV := Lib.hid (And.intro (hW.trans (by rw [hW0])) (And.intro hb (fun w1 (h : Below W.heap.size W w1) => And.intro (new_eight W0 _ _ _ _ _ _ _ _ _ (w1 := w1) (by rw [← hW]; exact h)) (frozen_eight W0 _ _ _ _ _ _ _ _ _ (w1 := w1) (by rw [← hW]; exact h)))))
 rw [hz0] at HV
 clear hk1 hk2 ea eb hW hW0 hz0 hb hb0 hb1 h1 h2
 go_enter Tryz.func80,Tryz.ntmps80
 go_wp2_with fail
 rw [← HV.out.1]
 refine H1.out.mono ?_
 rintro e w1 ⟨rfl,hb1⟩
 have e0 := (hb1.cell (p := ⟨w.heap.size,0,none⟩) hlt).trans e0
 have e1 := (hb1.cell (p := ⟨w.heap.size,1,none⟩) hlt).trans e1
 have hlt1 : w.heap.size < w1.heap.size := Nat.lt_of_lt_of_le hlt hb1.size
 have HB1 := Lib.hid hb1
 clear hb1
 go_wp2_with fail
 have hal := (Below.refl w1.heap.size w1).alloc (Nat.le_refl _) (.cells #[.bool b1,.string t1,.bool b2,.string t2] 25)
 refine (H2.out _ (HB1.out.trans (hal.mono HB1.out.size))).mono ?_
 rintro e w3 ⟨rfl,hb3⟩
 obtain ⟨g0,g1,g2,g3,_⟩ := new_four w1 _ _ _ _ _ hb3
 have hb13 := hal.trans (hb3.mono hal.size)
 have hbW3 := HB1.out.trans (hb13.mono HB1.out.size)
 obtain ⟨⟨c0,c1,c2,c3,c4,c5,c6,c7⟩,f0,f1,f2,f3,f4,f5,f6,f7⟩ := HV.out.2.2 w3 hbW3
 have hne : w1.heap.size < w3.heap.size := by have := hb3.size; simp at this; omega
 have hn2 : w.heap.size + 1 < w3.heap.size := by omega
 have hF := HV.out.2.1.trans (hbW3.mono HV.out.2.1.size)
 have HF := Lib.hid hF
 have HO := Lib.hid (fun (h : ¬ (ShortF a ∧ ShortF b)) => show zG = outG a b ∧ (4 : Int) = outGC a b by unfold outG outGC; rw [if_neg h,if_neg h]; exact ⟨rfl,rfl⟩)
 clear e0 e1 hb3 hal hb13 hbW3 hF H1 H2
 by_cases x1 : k1 = 0
 ·by_cases x2 : k2 = 0
  ·have HG := Lib.hid (And.intro (outG_of (HK.out.1.1 x1) (HK.out.2.1.1 x2) HK.out.2.2.1 HK.out.2.2.2) (show outGC a b = 0 by unfold outGC; rw [if_pos ⟨HK.out.1.1 x1,HK.out.2.1.1 x2⟩]))
   subst x1 x2
   go_wp2_with fail
   refine bodyPost_ret (v := .tuple #[.agg #[.bool b1,.string t1,.bool b2,.string t2,.bool b3,.string t3,.bool b4,.string t4],.int .i64 0]) (by simp [results,Tryz.results80,go_sem,c0,c1,c2,c3,c4,c5,c6,c7,hn2,cell_alloc_lt]) rfl ⟨by rw [HG.out.1,HG.out.2],?_⟩
   exact Below.alloc ((((((((HF.out.setCell (p := ⟨w.heap.size + 1,0,none⟩) (Nat.le_succ _) _).setCell (p := ⟨w.heap.size + 1,1,none⟩) (Nat.le_succ _) _).setCell (p := ⟨w.heap.size + 1,2,none⟩) (Nat.le_succ _) _).setCell (p := ⟨w.heap.size + 1,3,none⟩) (Nat.le_succ _) _).setCell (p := ⟨w.heap.size + 1,4,none⟩) (Nat.le_succ _) _).setCell (p := ⟨w.heap.size + 1,5,none⟩) (Nat.le_succ _) _).setCell (p := ⟨w.heap.size + 1,6,none⟩) (Nat.le_succ _) _).setCell (p := ⟨w.heap.size + 1,7,none⟩) (Nat.le_succ _) _) (by simp only [setCell_size]; exact (HF.out.size)) _
  ·have hx2 : (k2 != 0) = true := by simpa using x2
   have HN := Lib.hid (HO.out (fun h => x2 (HK.out.2.1.2 h.2)))
   subst x1
   go_wp2_with fail
   refine bodyPost_ret (v := .tuple #[zG,.int .i64 4]) (by unfold zG; simp [results,Tryz.results80,go_sem,c0,c1,c2,c3,c4,c5,c6,c7,hn2,cell_alloc_lt]) rfl ⟨by rw [HN.out.1,HN.out.2],?_⟩
   exact Below.alloc ((((((((HF.out.setCell (p := ⟨w.heap.size + 1,0,none⟩) (Nat.le_succ _) _).setCell (p := ⟨w.heap.size + 1,1,none⟩) (Nat.le_succ _) _).setCell (p := ⟨w.heap.size + 1,2,none⟩) (Nat.le_succ _) _).setCell (p := ⟨w.heap.size + 1,3,none⟩) (Nat.le_succ _) _).setCell (p := ⟨w.heap.size + 1,4,none⟩) (Nat.le_succ _) _).setCell (p := ⟨w.heap.size + 1,5,none⟩) (Nat.le_succ _) _).setCell (p := ⟨w.heap.size + 1,6,none⟩) (Nat.le_succ _) _).setCell (p := ⟨w.heap.size + 1,7,none⟩) (Nat.le_succ _) _) (by simp only [setCell_size]; exact (HF.out.size)) _
 ·have hx1 : (k1 != 0) = true := by simpa using x1
  have HN := Lib.hid (HO.out (fun h => x1 (HK.out.1.2 h.1)))
  go_wp2_with fail
  refine bodyPost_ret (v := .tuple #[zG,.int .i64 4]) (by unfold zG; simp [results,Tryz.results80,go_sem,c0,c1,c2,c3,c4,c5,c6,c7,hn2,cell_alloc_lt]) rfl ⟨by rw [HN.out.1,HN.out.2],?_⟩
  exact Below.alloc ((((((((HF.out.setCell (p := ⟨w.heap.size + 1,0,none⟩) (Nat.le_succ _) _).setCell (p := ⟨w.heap.size + 1,1,none⟩) (Nat.le_succ _) _).setCell (p := ⟨w.heap.size + 1,2,none⟩) (Nat.le_succ _) _).setCell (p := ⟨w.heap.size + 1,3,none⟩) (Nat.le_succ _) _).setCell (p := ⟨w.heap.size + 1,4,none⟩) (Nat.le_succ _) _).setCell (p := ⟨w.heap.size + 1,5,none⟩) (Nat.le_succ _) _).setCell (p := ⟨w.heap.size + 1,6,none⟩) (Nat.le_succ _) _).setCell (p := ⟨w.heap.size + 1,7,none⟩) (Nat.le_succ _) _) (by simp only [setCell_size]; exact (HF.out.size)) _
end Go.Proofs.YtepefgkihnjjaaaGreat
namespace Go.Proofs.YtepefgkihnjjaaaGreat
open Go.RowKit Tr
def PP (a b c d : Rat) : Fact := fun v w A => ∃ u1 u2 u3 u4,v = .agg #[u1,u2,u3,u4] ∧ RatP a u1 w A ∧ RatP b u2 w A ∧ RatP c u3 w A ∧ RatP d u4 w A
theorem PP.keeps (a b c d : Rat) : (PP a b c d).Keeps := fun v w w' A A' hs hk ⟨u1,u2,u3,u4,h0,h1,h2,h3,h4⟩ => ⟨u1,u2,u3,u4,h0,RatP.keeps a _ _ _ _ _ hs hk h1,RatP.keeps b _ _ _ _ _ hs hk h2,RatP.keeps c _ _ _ _ _ hs hk h3,RatP.keeps d _ _ _ _ _ hs hk h4⟩
theorem put_p {a b c d : Rat} {v1 v2 v3 v4 : Value} {w w1 : World} {A : Nat → Prop} {n : Nat} (hb : Below w.heap.size w w1) (h1 : RatP a v1 w1 (Mo A n)) (h2 : RatP b v2 w1 (Mo A n)) (h3 : RatP c v3 w1 (Mo A n)) (h4 : RatP d v4 w1 (Mo A n)) (hn : w.heap.size ≤ n) :
  ∃ u,Ending.returned (.agg #[v1,v2,v3,v4]) = .returned u ∧ Below w.heap.size w ((((w1.setCell ⟨n,0,none⟩ v1).setCell ⟨n,1,none⟩ v2).setCell ⟨n,2,none⟩ v3).setCell ⟨n,3,none⟩ v4) ∧ PP a b c d u ((((w1.setCell ⟨n,0,none⟩ v1).setCell ⟨n,1,none⟩ v2).setCell ⟨n,2,none⟩ v3).setCell ⟨n,3,none⟩ v4) A := by
 refine ⟨_,rfl,(((hb.setCell (p := ⟨n,0,none⟩) hn _).setCell (p := ⟨n,1,none⟩) hn _).setCell (p := ⟨n,2,none⟩) hn _).setCell (p := ⟨n,3,none⟩) hn _,v1,v2,v3,v4,rfl,?_,?_,?_,?_⟩
 ·exact more_less _ (RatP.keeps a) (keep_set _ (RatP.keeps a) (keep_set _ (RatP.keeps a) (keep_set _ (RatP.keeps a) (keep_set _ (RatP.keeps a) h1))))
 ·exact more_less _ (RatP.keeps b) (keep_set _ (RatP.keeps b) (keep_set _ (RatP.keeps b) (keep_set _ (RatP.keeps b) (keep_set _ (RatP.keeps b) h2))))
 ·exact more_less _ (RatP.keeps c) (keep_set _ (RatP.keeps c) (keep_set _ (RatP.keeps c) (keep_set _ (RatP.keeps c) (keep_set _ (RatP.keeps c) h3))))
 ·exact more_less _ (RatP.keeps d) (keep_set _ (RatP.keeps d) (keep_set _ (RatP.keeps d) (keep_set _ (RatP.keeps d) (keep_set _ (RatP.keeps d) h4))))
theorem noW_p (T : TypeId) : NoW (.cells #[.pointer none,.pointer none,.pointer none,.pointer none] T (0,0)) := by
 intro cs T fr e i k x
 cases e
 rcases i with _ | _ | _ | _ | i <;> simp
set_option maxRecDepth 100000 in
set_option maxHeartbeats 1600000 in
theorem XPoint_any (inf n1 n2 n3 n4 : Bool) (s1 s2 s3 s4 : ByteArray) (hd1 : inf = false → numS s2 ≠ 0) (hd2 : inf = false → numS s4 ≠ 0) (l1 : s1.size < 274877906944) (l2 : s2.size < 274877906944) (l3 : s3.size < 274877906944) (l4 : s4.size < 274877906944) (A : Nat → Prop) (w : World) (hA : Rcv A w)
  (a b c : Rat) (ha : a = if inf then 1 else Rat.divInt (sgn n1 (numS s1)) (sgn n2 (numS s2))) (hb : b = if inf then 0 else Rat.divInt (sgn n3 (numS s3)) (sgn n4 (numS s4))) (hc : c = if inf then 0 else 1) :
  Calls Tryz.prog 39 #[.agg #[.bool inf,.bool n1,.string s1,.bool n2,.string s2,.bool n3,.string s3,.bool n4,.string s4]] w fun e w' => ∃ u,e = .returned u ∧ Below w.heap.size w w' ∧ PP a b c 0 u w' A := by
 obtain ⟨W0,hW0⟩ : ∃ W0,W0 = w.alloc (.cells #[.bool inf,.bool n1,.string s1,.bool n2,.string s2,.bool n3,.string s3,.bool n4,.string s4] 29) := ⟨_,rfl⟩
 have hz0 : W0.heap.size = w.heap.size + 1 := by rw [hW0]; simp
 obtain ⟨W,hW⟩ : ∃ W,W = W0.alloc (.cells #[.pointer none,.pointer none,.pointer none,.pointer none] 86) := ⟨_,rfl⟩
 have hb0 : Below w.heap.size w W0 := by rw [hW0]; exact br.alloc (Nat.le_refl _) _
 have hb1 : Below W0.heap.size W0 W := by rw [hW]; exact br.alloc (Nat.le_refl _) _
 have hbW := hb0.trans (hb1.mono hb0.size)
 have hn := heap_alloc_new W0 (.cells #[.pointer none,.pointer none,.pointer none,.pointer none] 86 (0,0))
 have hR : Rcv (Mo A (w.heap.size + 1)) W := fun b h => h.elim (fun h => (hA.below hbW) b h) (fun h => by subst h; rw [hz0,← hW] at hn; exact ⟨_,hn,noW_p _⟩)
 have hcell : ∀ i,W.cell? ⟨w.heap.size,i,none⟩ = W0.cell? ⟨w.heap.size,i,none⟩ := fun i => hb1.cell (p := ⟨w.heap.size,i,none⟩) (by show w.heap.size < _; omega)
 have e0 : W.cell? ⟨w.heap.size,0,none⟩ = some (.bool inf) := (hcell 0).trans (by rw [hW0]; simp [go_sem])
 have e1 : W.cell? ⟨w.heap.size,1,none⟩ = some (.bool n1) := (hcell 1).trans (by rw [hW0]; simp [go_sem])
 have e2 : W.cell? ⟨w.heap.size,2,none⟩ = some (.string s1) := (hcell 2).trans (by rw [hW0]; simp [go_sem])
 have e3 : W.cell? ⟨w.heap.size,3,none⟩ = some (.bool n2) := (hcell 3).trans (by rw [hW0]; simp [go_sem])
 have e4 : W.cell? ⟨w.heap.size,4,none⟩ = some (.string s2) := (hcell 4).trans (by rw [hW0]; simp [go_sem])
 have e5 : W.cell? ⟨w.heap.size,5,none⟩ = some (.bool n3) := (hcell 5).trans (by rw [hW0]; simp [go_sem])
 have e6 : W.cell? ⟨w.heap.size,6,none⟩ = some (.string s3) := (hcell 6).trans (by rw [hW0]; simp [go_sem])
 have e7 : W.cell? ⟨w.heap.size,7,none⟩ = some (.bool n4) := (hcell 7).trans (by rw [hW0]; simp [go_sem])
 have e8 : W.cell? ⟨w.heap.size,8,none⟩ = some (.string s4) := (hcell 8).trans (by rw [hW0]; simp [go_sem])
 have HV := Lib.hid (And.intro (hW.trans (by rw [hW0])) (And.intro hbW (And.intro hR (fun w1 (h : Below W.heap.size W w1) => new_four W0 (.pointer none) (.pointer none) (.pointer none) (.pointer none) 86 (w1 := w1) (by rw [← hW]; exact h)))))
 rw [hz0] at HV
 clear hcell hn hbW hb0 hb1 hR hW hW0 hA hz0
 cases inf
 ·have H1 := Lib.hid (XOf_any n1 n2 n3 n4 s1 s2 s3 s4 (hd1 rfl) (hd2 rfl) l1 l2 l3 l4 (Mo A (w.heap.size + 1)) W HV.out.2.2.1)
  simp only [Bool.false_eq_true,if_false] at ha hb hc
  rw [← ha,← hb] at H1
  subst hc
  clear ha hb hd1 hd2
  go_enter Tryz.func39,Tryz.ntmps39
  go_wp2_with fail
  rw [← HV.out.1]
  go_wp2_with fail
  refine H1.out.mono ?_
  rintro e w1 ⟨v1,rfl,hb1,⟨y1,y2,rfl,j1,j2⟩⟩
  have H2 := Lib.hid (XInt_any 1 0 (by decide) (by decide) (by decide) (by decide) (Mo A (w.heap.size + 1)) w1 (HV.out.2.2.1.below hb1))
  have HJ := Lib.hid (And.intro j1 (And.intro j2 hb1))
  clear hb1 j1 j2 e0 e1 e2 e3 e4 e5 e6 e7 e8
  go_wp2_with fail
  refine H2.out.mono ?_
  rintro e w2 ⟨v2,rfl,hb2,⟨y3,y4,rfl,j3,j4⟩⟩
  have hbw := HJ.out.2.2.trans (hb2.mono HJ.out.2.2.size)
  obtain ⟨c0,c1,c2,c3,f0,f1,f2,f3⟩ := HV.out.2.2.2 w2 hbw
  have j1 := HJ.out.1.below hb2
  have j2 := HJ.out.2.1.below hb2
  have HE := Lib.hid (And.intro j1 (And.intro j2 (And.intro j3 (And.intro j4 (HV.out.2.1.trans (hbw.mono HV.out.2.1.size))))))
  obtain ⟨m1,rfl⟩ := j1.shape
  obtain ⟨m2,rfl⟩ := j2.shape
  obtain ⟨m3,rfl⟩ := j3.shape
  obtain ⟨m4,rfl⟩ := j4.shape
  clear j1 j2 j3 j4 hbw hb2 H1 H2
  go_wp2_with fail
  refine bodyPost_ret (v := .agg #[.pointer (some ⟨m1,0,none⟩),.pointer (some ⟨m2,0,none⟩),.pointer (some ⟨m3,0,none⟩),.pointer (some ⟨m4,0,none⟩)]) (by simp [results,Tryz.results39,go_sem,c0,c1,c2,c3]) rfl ?_
  exact put_p HE.out.2.2.2.2 HE.out.1 HE.out.2.1 HE.out.2.2.1 HE.out.2.2.2.1 (by omega)
 ·have H1 := Lib.hid (XInt_any 1 0 (by decide) (by decide) (by decide) (by decide) (Mo A (w.heap.size + 1)) W HV.out.2.2.1)
  simp only [if_true] at ha hb hc
  subst ha hb hc
  clear hd1 hd2
  go_enter Tryz.func39,Tryz.ntmps39
  go_wp2_with fail
  rw [← HV.out.1]
  go_wp2_with fail
  refine H1.out.mono ?_
  rintro e w1 ⟨v1,rfl,hb1,⟨y1,y2,rfl,j1,j2⟩⟩
  have H2 := Lib.hid (XInt_any 0 0 (by decide) (by decide) (by decide) (by decide) (Mo A (w.heap.size + 1)) w1 (HV.out.2.2.1.below hb1))
  have HJ := Lib.hid (And.intro j1 (And.intro j2 hb1))
  clear hb1 j1 j2 e0 e1 e2 e3 e4 e5 e6 e7 e8
  go_wp2_with fail
  refine H2.out.mono ?_
  rintro e w2 ⟨v2,rfl,hb2,⟨y3,y4,rfl,j3,j4⟩⟩
  have hbw := HJ.out.2.2.trans (hb2.mono HJ.out.2.2.size)
  obtain ⟨c0,c1,c2,c3,f0,f1,f2,f3⟩ := HV.out.2.2.2 w2 hbw
  have j1 := HJ.out.1.below hb2
  have j2 := HJ.out.2.1.below hb2
  have HE := Lib.hid (And.intro j1 (And.intro j2 (And.intro j3 (And.intro j4 (HV.out.2.1.trans (hbw.mono HV.out.2.1.size))))))
  obtain ⟨m1,rfl⟩ := j1.shape
  obtain ⟨m2,rfl⟩ := j2.shape
  obtain ⟨m3,rfl⟩ := j3.shape
  obtain ⟨m4,rfl⟩ := j4.shape
  clear j1 j2 j3 j4 hbw hb2 H1 H2
  go_wp2_with fail
  refine bodyPost_ret (v := .agg #[.pointer (some ⟨m1,0,none⟩),.pointer (some ⟨m2,0,none⟩),.pointer (some ⟨m3,0,none⟩),.pointer (some ⟨m4,0,none⟩)]) (by simp [results,Tryz.results39,go_sem,c0,c1,c2,c3]) rfl ?_
  exact put_p HE.out.2.2.2.2 HE.out.1 HE.out.2.1 HE.out.2.2.1 HE.out.2.2.2.1 (by omega)
end Go.Proofs.YtepefgkihnjjaaaGreat
