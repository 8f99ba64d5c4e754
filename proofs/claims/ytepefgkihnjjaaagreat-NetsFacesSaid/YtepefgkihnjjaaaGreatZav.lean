/- Laws for the walk. -/
import Derived.Test.YtepefgkihnjjaaaGreatZzz
import Derived.Test.YtepefgkihnjjaaaGreatZas
import Derived.Test.YtepefgkihnjjaaaGreatZau
set_option linter.unusedVariables false
namespace Go.Proofs.YtepefgkihnjjaaaGreat
open Go.RowKit Tr
theorem cel_two {w : World} {m : Nat} {T : TypeId} (h : w.heap[m]? = some (.cells #[.pointer none,.pointer none] T (0,0))) : w.cell? ⟨m,0,none⟩ = some (.pointer none) ∧ w.cell? ⟨m,1,none⟩ = some (.pointer none) ∧ w.frozen? ⟨m,0,none⟩ = false ∧ w.frozen? ⟨m,1,none⟩ = false := by
 simp [World.cell?,World.frozen?,h]
theorem ZL_det {x y z t : QC} {k l : Nat} (hx : ZL x k) (hy : ZL y k) (hz : ZL z l) (ht : ZL t l) : ZL (x * t - y * z) (k + l + (k + l) + 1 + (k + l + (k + l) + 1) + 1) := ZL_sub (ZL_mul hx ht) (ZL_mul hy hz)
theorem ftbox (w : World) (i0 i1 i2 i3 : Bool) (a0 b0 a1 b1 a2 b2 a3 b3 : Option Addr) :
  ∃ W,Hid (W = (w.alloc (.cells #[.bool i0,.pointer a0,.pointer b0,.bool i1,.pointer a1,.pointer b1,.bool i2,.pointer a2,.pointer b2,.bool i3,.pointer a3,.pointer b3] 70)).alloc (.cells #[.bool false,.pointer none,.pointer none] 68) ∧ Below w.heap.size w W ∧ W.heap.size = w.heap.size + 2 ∧ ∀ w1,Below W.heap.size W w1 → (w1.cell? ⟨w.heap.size,0,none⟩ = some (.bool i0) ∧ w1.cell? ⟨w.heap.size,1,none⟩ = some (.pointer a0) ∧ w1.cell? ⟨w.heap.size,2,none⟩ = some (.pointer b0) ∧ w1.cell? ⟨w.heap.size,3,none⟩ = some (.bool i1) ∧ w1.cell? ⟨w.heap.size,4,none⟩ = some (.pointer a1) ∧ w1.cell? ⟨w.heap.size,5,none⟩ = some (.pointer b1) ∧ w1.cell? ⟨w.heap.size,6,none⟩ = some (.bool i2) ∧ w1.cell? ⟨w.heap.size,7,none⟩ = some (.pointer a2) ∧ w1.cell? ⟨w.heap.size,8,none⟩ = some (.pointer b2) ∧ w1.cell? ⟨w.heap.size,9,none⟩ = some (.bool i3) ∧ w1.cell? ⟨w.heap.size,10,none⟩ = some (.pointer a3) ∧ w1.cell? ⟨w.heap.size,11,none⟩ = some (.pointer b3)) ∧
   (w1.cell? ⟨w.heap.size + 1,0,none⟩ = some (.bool false) ∧ w1.cell? ⟨w.heap.size + 1,1,none⟩ = some (.pointer none) ∧ w1.cell? ⟨w.heap.size + 1,2,none⟩ = some (.pointer none) ∧ w1.frozen? ⟨w.heap.size + 1,0,none⟩ = false ∧ w1.frozen? ⟨w.heap.size + 1,1,none⟩ = false ∧ w1.frozen? ⟨w.heap.size + 1,2,none⟩ = false ∧ w1.heap[w.heap.size + 1]? = some (.cells #[.bool false,.pointer none,.pointer none] 68 (0,0)))) := by
 obtain ⟨w1,hw1⟩ : ∃ w1,w1 = w.alloc (.cells #[.bool i0,.pointer a0,.pointer b0,.bool i1,.pointer a1,.pointer b1,.bool i2,.pointer a2,.pointer b2,.bool i3,.pointer a3,.pointer b3] 70) := ⟨_,rfl⟩
 have hz1 : w1.heap.size = w.heap.size + 1 := by rw [hw1]; simp
 have hb1 : Below w.heap.size w w1 := by rw [hw1]; exact br.alloc (Nat.le_refl _) _
 obtain ⟨w2,hw2⟩ : ∃ w2,w2 = w1.alloc (.cells #[.bool false,.pointer none,.pointer none] 68) := ⟨_,rfl⟩
 have hz2 : w2.heap.size = w.heap.size + 2 := by rw [hw2]; simp [hz1]
 have hb2 : Below w1.heap.size w1 w2 := by rw [hw2]; exact br.alloc (Nat.le_refl _) _
 have t2 : Below w2.heap.size w2 w2 := Below.refl _ _
 have t1 : Below w1.heap.size w1 w2 := hb2.trans (t2.mono hb2.size)
 refine ⟨w2,Lib.hid ⟨by rw [hw2,hw1],hb1.trans (t1.mono hb1.size),hz2,fun w' h => ?_⟩⟩
 have e0 := (t1.trans (h.mono t1.size)).block w.heap.size (by rw [hw1]; simp)
 rw [hw1,heap_alloc_new] at e0
 have e1 := (t2.trans (h.mono t2.size)).block w1.heap.size (by rw [hw2]; simp)
 rw [hw2,heap_alloc_new] at e1
 rw [hz1] at e1
 refine ⟨?_,?_⟩ <;> simp [World.cell?,World.frozen?,e0,e1]
theorem NQDiv_any (x y : QC) (hn0 : y.re * y.re + y.im * y.im ≠ 0) (v v' : Value) (A : Nat → Prop) (w : World) (hv : NQ x v w A) (hv' : NQ y v' w A) (hA : Rcv A w) (k l : Nat) (hx : ZL x k) (hy : ZL y l) (hkl : (k + l + (k + l) + 1) + (l + l + (l + l) + 1) < 137438953472) :
  Calls Tryz.prog 35 #[v,v'] w fun e w' => ∃ u,e = .returned u ∧ Below w.heap.size w w' ∧ NQ (x / y) u w' A := NDiv_any x.re x.im y.re y.im _ rfl hn0 v v' A w hv hv' hA k l hx.1 hx.2 hy.1 hy.2 hkl
def ratP (p0 p1 p2 p3 : Pt) : Pt := if ((ptX p1 * ptY p2 - ptY p1 * ptX p2) * (ptX p3 * ptY p0 - ptY p3 * ptX p0)) = ⟨0,0⟩ then none else some (((ptX p0 * ptY p1 - ptY p0 * ptX p1) * (ptX p2 * ptY p3 - ptY p2 * ptX p3)) / ((ptX p1 * ptY p2 - ptY p1 * ptX p2) * (ptX p3 * ptY p0 - ptY p3 * ptX p0)))
def FoF (p0 p1 p2 p3 : Pt) : Fact := fun v w A => ∃ i0 a0 b0 i1 a1 b1 i2 a2 b2 i3 a3 b3,v = .agg #[.bool i0,.pointer a0,.pointer b0,.bool i1,.pointer a1,.pointer b1,.bool i2,.pointer a2,.pointer b2,.bool i3,.pointer a3,.pointer b3] ∧ PlF p0 (.agg #[.bool i0,.pointer a0,.pointer b0]) w A ∧ PlF p1 (.agg #[.bool i1,.pointer a1,.pointer b1]) w A ∧ PlF p2 (.agg #[.bool i2,.pointer a2,.pointer b2]) w A ∧ PlF p3 (.agg #[.bool i3,.pointer a3,.pointer b3]) w A
theorem FoF.keeps (p0 p1 p2 p3 : Pt) : (FoF p0 p1 p2 p3).Keeps := fun v w w' A A' hs hk ⟨i0,a0,b0,i1,a1,b1,i2,a2,b2,i3,a3,b3,e,h0,h1,h2,h3⟩ => ⟨i0,a0,b0,i1,a1,b1,i2,a2,b2,i3,a3,b3,e,PlF.keeps _ _ _ _ _ _ hs hk h0,PlF.keeps _ _ _ _ _ _ hs hk h1,PlF.keeps _ _ _ _ _ _ hs hk h2,PlF.keeps _ _ _ _ _ _ hs hk h3⟩
set_option maxRecDepth 100000 in
set_option maxHeartbeats 6400000 in
theorem ratio_any (p0 p1 p2 p3 : Pt) (v : Value) (A : Nat → Prop) (w : World) (hA : Rcv A w) (hv : FoF p0 p1 p2 p3 v w A) (k : Nat) (hk : k ≤ 100000)
  (lx0 : ZL (ptX p0) k) (ly0 : ZL (ptY p0) k) (lx1 : ZL (ptX p1) k) (ly1 : ZL (ptY p1) k) (lx2 : ZL (ptX p2) k) (ly2 : ZL (ptY p2) k) (lx3 : ZL (ptX p3) k) (ly3 : ZL (ptY p3) k) :
  Calls Tryz.prog 30 #[v] w fun e w' => ∃ u,e = .returned u ∧ Below w.heap.size w w' ∧ PlF (ratP p0 p1 p2 p3) u w' A := by
 obtain ⟨i0,a0,b0,i1,a1,b1,i2,a2,b2,i3,a3,b3,rfl,h0,h1,h2,h3⟩ := hv
 obtain ⟨W,HV⟩ := ftbox w i0 i1 i2 i3 a0 b0 a1 b1 a2 b2 a3 b3
 obtain ⟨⟨c0,c1,c2,c3,c4,c5,c6,c7,c8,c9,c10,c11⟩,_,_,_,_,_,_,gz⟩ := HV.out.2.2.2 W br
 have hs0 : w.heap.size < W.heap.size := by have := HV.out.2.2.1; omega
 have HR : Rcv (Mo A (w.heap.size + 1)) W := rcv_more hA HV.out.2.1 gz (noW_pl _ _ _ _)
 have h0 := new_more (PlF.keeps p0) (n := w.heap.size + 1) HV.out.2.1 (by omega) h0
 have h1 := new_more (PlF.keeps p1) (n := w.heap.size + 1) HV.out.2.1 (by omega) h1
 have h2 := new_more (PlF.keeps p2) (n := w.heap.size + 1) HV.out.2.1 (by omega) h2
 have h3 := new_more (PlF.keeps p3) (n := w.heap.size + 1) HV.out.2.1 (by omega) h3
 have hbW := Below.refl W.heap.size W
 have HP := Lib.hid (And.intro h0 (And.intro h1 (And.intro h2 (And.intro h3 HR))))
 clear hA gz
 go_enter Tryz.func30,Tryz.ntmps30
 go_wp2_with fail
 try simp only [Nat.add_assoc,Nat.reduceAdd]
 rw [← HV.out.1]
 refine wp_region_own [(.lit,[]),(.lit,[]),(.lit,[]),(.lit,[]),(.val,[]),(.lit,[]),(.lit,[]),(.lit,[]),(.lit,[]),(.val,[]),(.val,[4,9]),(.own (.cells #[.pointer none,.pointer none] 66 (0,0)),[])]
  (pickF [(4,FactU (Mo A (w.heap.size + 1)) (NQ (ptX p0 * ptY p1 - ptY p0 * ptX p1))),(9,FactU (Mo A (w.heap.size + 1)) (NQ (ptX p2 * ptY p3 - ptY p2 * ptX p3))),(10,FactU (Mo A (w.heap.size + 1)) (NQ ((ptX p0 * ptY p1 - ptY p0 * ptX p1) * (ptX p2 * ptY p3 - ptY p2 * ptX p3))))]) (by kernel_rfl) ?_ ?_ ?_ (by simp) (by kernel_rfl)
 ·exact keeps_pick (by simp only [List.mem_cons,List.not_mem_nil,or_false]; rintro p (rfl | rfl | rfl) <;> exact FactU.keeps (NQ.keeps _))
 rotate_left
 ·intro q hq z hz
  have : z = .cells #[.pointer none,.pointer none] 66 (0,0) := by
   simp only [List.mem_cons,List.not_mem_nil,or_false] at hq
   rcases hq with rfl | rfl | rfl | rfl | rfl | rfl | rfl | rfl | rfl | rfl | rfl | rfl <;> simp at hz <;> exact hz.symm
  rw [this]; exact noW_num _ _ ⟨_,rfl⟩ ⟨_,rfl⟩ _
 ·repeat (refine ⟨_,fun f w1 h1 => by (have d0 := ct h1 hs0 c0; have d1 := ct h1 hs0 c1; have d2 := ct h1 hs0 c2; have d3 := ct h1 hs0 c3; have d4 := ct h1 hs0 c4; have d5 := ct h1 hs0 c5; have d6 := ct h1 hs0 c6; have d7 := ct h1 hs0 c7; have d8 := ct h1 hs0 c8; have d9 := ct h1 hs0 c9; have d10 := ct h1 hs0 c10; have d11 := ct h1 hs0 c11; go_simp; rfl),?_⟩)
  simp only [Act.put,nrA,nrB,nrC,Nat.reduceAdd]
  refine ⟨fun f w1 A1 k1 hA hN hd K hK => by
   go_simp
   refine (Across_any p0 p1 _ _ (Un (Mo A (w.heap.size + 1)) A1) w1 (rcv_un (HR.below (br.drew.trans k1)) hA) (later (FactU.keeps (PlF.keeps _)) h0 k1 hN) (later (FactU.keeps (PlF.keeps _)) h1 k1 hN) k (by omega) lx0 ly0 lx1 ly1).mono ?_
   rintro e w' ⟨v,rfl,hb,hr⟩
   exact hK _ _ hb hr,?_⟩
  repeat (refine ⟨_,fun f w1 h1 => by (have d0 := ct h1 hs0 c0; have d1 := ct h1 hs0 c1; have d2 := ct h1 hs0 c2; have d3 := ct h1 hs0 c3; have d4 := ct h1 hs0 c4; have d5 := ct h1 hs0 c5; have d6 := ct h1 hs0 c6; have d7 := ct h1 hs0 c7; have d8 := ct h1 hs0 c8; have d9 := ct h1 hs0 c9; have d10 := ct h1 hs0 c10; have d11 := ct h1 hs0 c11; go_simp; rfl),?_⟩)
  simp only [Act.put,nrA,nrB,nrC,Nat.reduceAdd]
  refine ⟨fun f w1 A1 k1 hA hN hd K hK => by
   go_simp
   refine (Across_any p2 p3 _ _ (Un (Mo A (w.heap.size + 1)) A1) w1 (rcv_un (HR.below (br.drew.trans k1)) hA) (later (FactU.keeps (PlF.keeps _)) h2 k1 hN) (later (FactU.keeps (PlF.keeps _)) h3 k1 hN) k (by omega) lx2 ly2 lx3 ly3).mono ?_
   rintro e w' ⟨v,rfl,hb,hr⟩
   exact hK _ _ hb hr,?_⟩
  simp only [Act.put,nrA,nrB,nrC,Nat.reduceAdd]
  refine ⟨fun f w1 A1 k1 hA hN hd K hK => by
   have i4 : NQ (ptX p0 * ptY p1 - ptY p0 * ptX p1) (f 4) w1 (Un (Mo A (w.heap.size + 1)) A1) := hd 4 (by simp)
   have i9 : NQ (ptX p2 * ptY p3 - ptY p2 * ptX p3) (f 9) w1 (Un (Mo A (w.heap.size + 1)) A1) := hd 9 (by simp)
   go_simp
   refine (NQMul_any _ _ _ _ (Un (Mo A (w.heap.size + 1)) A1) w1 i4 i9 (rcv_un (HR.below (br.drew.trans k1)) hA) _ _ (ZL_det lx0 ly0 lx1 ly1) (ZL_det lx2 ly2 lx3 ly3) (by omega)).mono ?_
   rintro e w' ⟨v,rfl,hb,hr⟩
   exact hK _ _ hb hr,?_⟩
  refine ⟨fun f w => by go_simp,?_⟩
  intro f v1 A1 k1 hA1 hfr hap hF
  have i10 : FactU (Mo A (w.heap.size + 1)) (NQ ((ptX p0 * ptY p1 - ptY p0 * ptX p1) * (ptX p2 * ptY p3 - ptY p2 * ptX p3))) (f 10) v1 A1 := hF.1.2
  obtain ⟨m1,em,am,hm,zm⟩ := hF.2
  obtain ⟨s1,t1,e10⟩ := nq_agg i10
  clear hF hap
  simp only [Act.put,nrA,nrB,nrC]
  rw [em,e10]
  rw [e10] at i10
  clear em e10
  generalize f 4 = z4
  generalize f 9 = z9
  obtain ⟨k10,k11,k12,k13⟩ := cel_two zm
  have hbv : Below W.heap.size W v1 := (hbW.drew).trans (k1.mono hbW.size)
  go_wp2_with fail
  obtain ⟨V1,hV1⟩ : ∃ V1,V1 = (v1.setCell ⟨m1,0,none⟩ (.pointer s1)).setCell ⟨m1,1,none⟩ (.pointer t1) := ⟨_,rfl⟩
  rw [← hV1]
  have j1 : FactU (Mo A (w.heap.size + 1)) (NQ ((ptX p0 * ptY p1 - ptY p0 * ptX p1) * (ptX p2 * ptY p3 - ptY p2 * ptX p3))) (.agg #[.pointer s1,.pointer t1]) V1 NoA := by
   rw [hV1]; exact Fact.Keeps.noA (FactU.keeps (NQ.keeps _)) (keep_at (FactU.keeps (NQ.keeps _)) am (keep_at (FactU.keeps (NQ.keeps _)) am i10))
  have hWm : W.heap.size ≤ m1 := Nat.le_trans hbW.size hm
  have hbV : Below W.heap.size W V1 := by rw [hV1]; exact (hbv.setCell (p := ⟨m1,0,none⟩) hWm _).setCell (p := ⟨m1,1,none⟩) hWm _
  have q0 : V1.cell? ⟨m1,0,none⟩ = some (.pointer s1) := by rw [hV1]; go_simp
  have q1 : V1.cell? ⟨m1,1,none⟩ = some (.pointer t1) := by rw [hV1]; go_simp
  have hmV : m1 < V1.heap.size := by rw [hV1]; simpa [World.setCell] using (Array.getElem?_eq_some_iff.1 zm).1
  have HQ1 := Lib.hid (And.intro q0 (And.intro q1 (And.intro hmV j1)))
  have HB1 := Lib.hid hbV
  clear k10 k11 k12 k13 hV1 j1 hWm hbV q0 q1 hmV zm am hm hA1 hfr i10 hbv k1 hbW c0 c1 c2 c3 c4 c5 c6 c7 c8 c9 c10 c11 hs0 h0 h1 h2 h3 HR
  have hbW := HB1.out
  obtain ⟨⟨c0,c1,c2,c3,c4,c5,c6,c7,c8,c9,c10,c11⟩,_⟩ := HV.out.2.2.2 V1 hbW
  have hs0 : w.heap.size < V1.heap.size := by have := hbW.size; have := HV.out.2.2.1; omega
  have h0 := Fact.Keeps.below (FactU.keeps (PlF.keeps p0)) hbW HP.out.1
  have h1 := Fact.Keeps.below (FactU.keeps (PlF.keeps p1)) hbW HP.out.2.1
  have h2 := Fact.Keeps.below (FactU.keeps (PlF.keeps p2)) hbW HP.out.2.2.1
  have h3 := Fact.Keeps.below (FactU.keeps (PlF.keeps p3)) hbW HP.out.2.2.2.1
  have HR := HP.out.2.2.2.2.below hbW
  refine wp_region_own [(.lit,[]),(.lit,[]),(.lit,[]),(.lit,[]),(.val,[]),(.lit,[]),(.lit,[]),(.lit,[]),(.lit,[]),(.val,[]),(.val,[4,9]),(.own (.cells #[.pointer none,.pointer none] 66 (0,0)),[])]
   (pickF [(4,FactU (Mo A (w.heap.size + 1)) (NQ (ptX p1 * ptY p2 - ptY p1 * ptX p2))),(9,FactU (Mo A (w.heap.size + 1)) (NQ (ptX p3 * ptY p0 - ptY p3 * ptX p0))),(10,FactU (Mo A (w.heap.size + 1)) (NQ ((ptX p1 * ptY p2 - ptY p1 * ptX p2) * (ptX p3 * ptY p0 - ptY p3 * ptX p0))))]) (by kernel_rfl) ?_ ?_ ?_ (by simp) (by kernel_rfl)
  ·exact keeps_pick (by simp only [List.mem_cons,List.not_mem_nil,or_false]; rintro p (rfl | rfl | rfl) <;> exact FactU.keeps (NQ.keeps _))
  rotate_left
  ·intro q hq z hz
   have : z = .cells #[.pointer none,.pointer none] 66 (0,0) := by
    simp only [List.mem_cons,List.not_mem_nil,or_false] at hq
    rcases hq with rfl | rfl | rfl | rfl | rfl | rfl | rfl | rfl | rfl | rfl | rfl | rfl <;> simp at hz <;> exact hz.symm
   rw [this]; exact noW_num _ _ ⟨_,rfl⟩ ⟨_,rfl⟩ _
  ·repeat (refine ⟨_,fun f w1 h1 => by (have d0 := ct h1 hs0 c0; have d1 := ct h1 hs0 c1; have d2 := ct h1 hs0 c2; have d3 := ct h1 hs0 c3; have d4 := ct h1 hs0 c4; have d5 := ct h1 hs0 c5; have d6 := ct h1 hs0 c6; have d7 := ct h1 hs0 c7; have d8 := ct h1 hs0 c8; have d9 := ct h1 hs0 c9; have d10 := ct h1 hs0 c10; have d11 := ct h1 hs0 c11; go_simp; rfl),?_⟩)
   simp only [Act.put,nrA,nrB,nrC,Nat.reduceAdd]
   refine ⟨fun f w1 A1 k1 hA hN hd K hK => by
    go_simp
    refine (Across_any p1 p2 _ _ (Un (Mo A (w.heap.size + 1)) A1) w1 (rcv_un (HR.below (br.drew.trans k1)) hA) (later (FactU.keeps (PlF.keeps _)) h1 k1 hN) (later (FactU.keeps (PlF.keeps _)) h2 k1 hN) k (by omega) lx1 ly1 lx2 ly2).mono ?_
    rintro e w' ⟨v,rfl,hb,hr⟩
    exact hK _ _ hb hr,?_⟩
   repeat (refine ⟨_,fun f w1 h1 => by (have d0 := ct h1 hs0 c0; have d1 := ct h1 hs0 c1; have d2 := ct h1 hs0 c2; have d3 := ct h1 hs0 c3; have d4 := ct h1 hs0 c4; have d5 := ct h1 hs0 c5; have d6 := ct h1 hs0 c6; have d7 := ct h1 hs0 c7; have d8 := ct h1 hs0 c8; have d9 := ct h1 hs0 c9; have d10 := ct h1 hs0 c10; have d11 := ct h1 hs0 c11; go_simp; rfl),?_⟩)
   simp only [Act.put,nrA,nrB,nrC,Nat.reduceAdd]
   refine ⟨fun f w1 A1 k1 hA hN hd K hK => by
    go_simp
    refine (Across_any p3 p0 _ _ (Un (Mo A (w.heap.size + 1)) A1) w1 (rcv_un (HR.below (br.drew.trans k1)) hA) (later (FactU.keeps (PlF.keeps _)) h3 k1 hN) (later (FactU.keeps (PlF.keeps _)) h0 k1 hN) k (by omega) lx3 ly3 lx0 ly0).mono ?_
    rintro e w' ⟨v,rfl,hb,hr⟩
    exact hK _ _ hb hr,?_⟩
   simp only [Act.put,nrA,nrB,nrC,Nat.reduceAdd]
   refine ⟨fun f w1 A1 k1 hA hN hd K hK => by
    have i4 : NQ (ptX p1 * ptY p2 - ptY p1 * ptX p2) (f 4) w1 (Un (Mo A (w.heap.size + 1)) A1) := hd 4 (by simp)
    have i9 : NQ (ptX p3 * ptY p0 - ptY p3 * ptX p0) (f 9) w1 (Un (Mo A (w.heap.size + 1)) A1) := hd 9 (by simp)
    go_simp
    refine (NQMul_any _ _ _ _ (Un (Mo A (w.heap.size + 1)) A1) w1 i4 i9 (rcv_un (HR.below (br.drew.trans k1)) hA) _ _ (ZL_det lx1 ly1 lx2 ly2) (ZL_det lx3 ly3 lx0 ly0) (by omega)).mono ?_
    rintro e w' ⟨v,rfl,hb,hr⟩
    exact hK _ _ hb hr,?_⟩
   refine ⟨fun f w => by go_simp,?_⟩
   intro f v1 A1 k1 hA1 hfr hap hF
   have i10 : FactU (Mo A (w.heap.size + 1)) (NQ ((ptX p1 * ptY p2 - ptY p1 * ptX p2) * (ptX p3 * ptY p0 - ptY p3 * ptX p0))) (f 10) v1 A1 := hF.1.2
   obtain ⟨m2,em,am,hm,zm⟩ := hF.2
   obtain ⟨s2,t2,e10⟩ := nq_agg i10
   clear hF hap
   simp only [Act.put,nrA,nrB,nrC]
   rw [em,e10]
   rw [e10] at i10
   clear em e10
   generalize f 4 = z4
   generalize f 9 = z9
   obtain ⟨k10,k11,k12,k13⟩ := cel_two zm
   have hbv : Below W.heap.size W v1 := (hbW.drew).trans (k1.mono hbW.size)
   go_wp2_with fail
   obtain ⟨V2,hV2⟩ : ∃ V2,V2 = (v1.setCell ⟨m2,0,none⟩ (.pointer s2)).setCell ⟨m2,1,none⟩ (.pointer t2) := ⟨_,rfl⟩
   rw [← hV2]
   have j2 : FactU (Mo A (w.heap.size + 1)) (NQ ((ptX p1 * ptY p2 - ptY p1 * ptX p2) * (ptX p3 * ptY p0 - ptY p3 * ptX p0))) (.agg #[.pointer s2,.pointer t2]) V2 NoA := by
    rw [hV2]; exact Fact.Keeps.noA (FactU.keeps (NQ.keeps _)) (keep_at (FactU.keeps (NQ.keeps _)) am (keep_at (FactU.keeps (NQ.keeps _)) am i10))
   have hWm : W.heap.size ≤ m2 := Nat.le_trans hbW.size hm
   have hbV : Below W.heap.size W V2 := by rw [hV2]; exact (hbv.setCell (p := ⟨m2,0,none⟩) hWm _).setCell (p := ⟨m2,1,none⟩) hWm _
   have q0 : V2.cell? ⟨m2,0,none⟩ = some (.pointer s2) := by rw [hV2]; go_simp
   have q1 : V2.cell? ⟨m2,1,none⟩ = some (.pointer t2) := by rw [hV2]; go_simp
   have hmV : m2 < V2.heap.size := by rw [hV2]; simpa [World.setCell] using (Array.getElem?_eq_some_iff.1 zm).1
   have hbV1 : Below V1.heap.size V1 V2 := by
    have hWm1 : V1.heap.size ≤ m2 := hm
    rw [hV2]; exact ((((Below.refl V1.heap.size V1).drew.trans k1)).setCell (p := ⟨m2,0,none⟩) hWm1 _).setCell (p := ⟨m2,1,none⟩) hWm1 _
   have j1 := Fact.Keeps.below (FactU.keeps (NQ.keeps _)) hbV1 HQ1.out.2.2.2
   have r0 := (hbV1.cell (p := ⟨m1,0,none⟩) HQ1.out.2.2.1).trans HQ1.out.1
   have r1 := (hbV1.cell (p := ⟨m1,1,none⟩) HQ1.out.2.2.1).trans HQ1.out.2.1
   have HE := Lib.hid (And.intro j1 (And.intro j2 (And.intro hbV (And.intro hmV (Nat.lt_of_lt_of_le HQ1.out.2.2.1 hbV1.size)))))
   obtain ⟨rz,hrz⟩ : ∃ rz,rz = decide ((((ptX p1 * ptY p2 - ptY p1 * ptX p2) * (ptX p3 * ptY p0 - ptY p3 * ptX p0))).re = 0 ∧ (((ptX p1 * ptY p2 - ptY p1 * ptX p2) * (ptX p3 * ptY p0 - ptY p3 * ptX p0))).im = 0) := ⟨_,rfl⟩
   have HZ := Lib.hid (NZero_any (((ptX p1 * ptY p2 - ptY p1 * ptX p2) * (ptX p3 * ptY p0 - ptY p3 * ptX p0))).re (((ptX p1 * ptY p2 - ptY p1 * ptX p2) * (ptX p3 * ptY p0 - ptY p3 * ptX p0))).im _ _ V2 (FactU.done (NQ.keeps _) j2) rz (by rw [hrz]; simp))
   have HR2 := Lib.hid hrz
   clear k10 k11 k12 k13 hV2 j1 j2 hWm hbV hbV1 hmV zm am hm hA1 hfr i10 hbv k1 hbW c0 c1 c2 c3 c4 c5 c6 c7 c8 c9 c10 c11 hs0 h0 h1 h2 h3 HR hrz
   go_wp2_with fail
   refine HZ.out.mono ?_
   rintro e v3 ⟨rfl,hb3⟩
   have g0 := (hb3.cell (p := ⟨m1,0,none⟩) HE.out.2.2.2.2).trans r0
   have g1 := (hb3.cell (p := ⟨m1,1,none⟩) HE.out.2.2.2.2).trans r1
   have g2 := (hb3.cell (p := ⟨m2,0,none⟩) HE.out.2.2.2.1).trans q0
   have g3 := (hb3.cell (p := ⟨m2,1,none⟩) HE.out.2.2.2.1).trans q1
   have hbw3 := HE.out.2.2.1.trans (hb3.mono HE.out.2.2.1.size)
   clear r0 r1 q0 q1 HZ
   cases rz
   ·have hne : ¬ ((((ptX p1 * ptY p2 - ptY p1 * ptX p2) * (ptX p3 * ptY p0 - ptY p3 * ptX p0))).re = 0 ∧ (((ptX p1 * ptY p2 - ptY p1 * ptX p2) * (ptX p3 * ptY p0 - ptY p3 * ptX p0))).im = 0) := of_decide_eq_false HR2.out.symm
    have hn0 : (((ptX p1 * ptY p2 - ptY p1 * ptX p2) * (ptX p3 * ptY p0 - ptY p3 * ptX p0))).re * (((ptX p1 * ptY p2 - ptY p1 * ptX p2) * (ptX p3 * ptY p0 - ptY p3 * ptX p0))).re + (((ptX p1 * ptY p2 - ptY p1 * ptX p2) * (ptX p3 * ptY p0 - ptY p3 * ptX p0))).im * (((ptX p1 * ptY p2 - ptY p1 * ptX p2) * (ptX p3 * ptY p0 - ptY p3 * ptX p0))).im ≠ 0 := fun h => hne (norm_zero.1 h)
    have hy0 : ((ptX p1 * ptY p2 - ptY p1 * ptX p2) * (ptX p3 * ptY p0 - ptY p3 * ptX p0)) ≠ ⟨0,0⟩ := fun h => hne (by rw [h]; exact ⟨rfl,rfl⟩)
    have i1 := FactU.done (NQ.keeps _) (Fact.Keeps.below (FactU.keeps (NQ.keeps _)) hb3 HE.out.1)
    have i2 := FactU.done (NQ.keeps _) (Fact.Keeps.below (FactU.keeps (NQ.keeps _)) hb3 HE.out.2.1)
    have HD := Lib.hid (NQDiv_any _ _ hn0 _ _ (Mo A (w.heap.size + 1)) v3 i1 i2 (HP.out.2.2.2.2.below hbw3) _ _ (ZL_mul (ZL_det lx0 ly0 lx1 ly1) (ZL_det lx2 ly2 lx3 ly3)) (ZL_mul (ZL_det lx1 ly1 lx2 ly2) (ZL_det lx3 ly3 lx0 ly0)) (by omega))
    have HT := Lib.hid (show ratP p0 p1 p2 p3 = some (((ptX p0 * ptY p1 - ptY p0 * ptX p1) * (ptX p2 * ptY p3 - ptY p2 * ptX p3)) / ((ptX p1 * ptY p2 - ptY p1 * ptX p2) * (ptX p3 * ptY p0 - ptY p3 * ptX p0))) by unfold ratP; exact if_neg hy0)
    have HB3 := Lib.hid hbw3
    clear hne hn0 hy0 i1 i2 hb3 hbw3 HE lx0 ly0 lx1 ly1 lx2 ly2 lx3 ly3
    go_wp2_with fail
    refine HD.out.mono ?_
    rintro e v4 ⟨u,rfl,hb4,hu⟩
    obtain ⟨n1,n2,rfl⟩ := nq_agg hu
    have hbw4 := HB3.out.trans (hb4.mono HB3.out.size)
    obtain ⟨_,c0,c1,c2,f0,f1,f2,_⟩ := HV.out.2.2.2 v4 hbw4
    have HF := Lib.hid (put_pl (p := some (((ptX p0 * ptY p1 - ptY p0 * ptX p1) * (ptX p2 * ptY p3 - ptY p2 * ptX p3)) / ((ptX p1 * ptY p2 - ptY p1 * ptX p2) * (ptX p3 * ptY p0 - ptY p3 * ptX p0)))) (i := false) rfl (HV.out.2.1.trans (hbw4.mono HV.out.2.1.size)) hu (show w.heap.size ≤ w.heap.size + 1 by omega))
    clear hu hb4 hbw4 HD g0 g1 g2 g3
    go_wp2_with fail
    refine bodyPost_ret (v := .agg #[.bool false,.pointer n1,.pointer n2]) (by simp [results,Tryz.results30,go_sem,c0,c1,c2]) rfl ?_
    exact ⟨_,rfl,HF.out.1,by rw [HT.out]; exact HF.out.2⟩
   ·have hy0 : ((ptX p1 * ptY p2 - ptY p1 * ptX p2) * (ptX p3 * ptY p0 - ptY p3 * ptX p0)) = ⟨0,0⟩ := by
     have := of_decide_eq_true HR2.out.symm
     revert this
     generalize ((ptX p1 * ptY p2 - ptY p1 * ptX p2) * (ptX p3 * ptY p0 - ptY p3 * ptX p0)) = y
     obtain ⟨re,im⟩ := y
     rintro ⟨h1,h2⟩
     simp only at h1 h2
     rw [h1,h2]
    have HT := Lib.hid (show ratP p0 p1 p2 p3 = none by unfold ratP; exact if_pos hy0)
    obtain ⟨_,c0,c1,c2,f0,f1,f2,_⟩ := HV.out.2.2.2 v3 hbw3
    have HF := Lib.hid (put_pl (p := none) (i := true) (p1 := none) (p2 := none) (A := A) rfl (HV.out.2.1.trans (hbw3.mono HV.out.2.1.size)) ⟨_,_,rfl,.inl ⟨rfl,rfl⟩,.inl ⟨rfl,rfl⟩⟩ (show w.heap.size ≤ w.heap.size + 1 by omega))
    clear hy0 hb3 hbw3 HE lx0 ly0 lx1 ly1 lx2 ly2 lx3 ly3 g0 g1 g2 g3
    go_wp2_with fail
    refine bodyPost_ret (v := .agg #[.bool true,.pointer none,.pointer none]) (by simp [results,Tryz.results30,go_sem,c0,c1,c2]) rfl ?_
    exact ⟨_,rfl,HF.out.1,by rw [HT.out]; exact HF.out.2⟩
end Go.Proofs.YtepefgkihnjjaaaGreat
namespace Go.Proofs.YtepefgkihnjjaaaGreat
open Go.RowKit Tr
theorem qc_ext {x y : QC} (h1 : x.re = y.re) (h2 : x.im = y.im) : x = y := by cases x; cases y; simp at h1 h2; rw [h1,h2]
theorem qmr (x y : QC) : (x * y).re = x.re * y.re - x.im * y.im := rfl
theorem qmi (x y : QC) : (x * y).im = x.re * y.im + x.im * y.re := rfl
theorem qar (x y : QC) : (x + y).re = x.re + y.re := rfl
theorem qai (x y : QC) : (x + y).im = x.im + y.im := rfl
theorem qsr (x y : QC) : (x - y).re = x.re - y.re := rfl
theorem qsi (x y : QC) : (x - y).im = x.im - y.im := rfl
theorem qdr (x y : QC) : (x / y).re = (x.re * y.re - x.im * (-y.im)) * (y.re * y.re + y.im * y.im)⁻¹ := rfl
theorem qdi (x y : QC) : (x / y).im = (x.re * (-y.im) + x.im * y.re) * (y.re * y.re + y.im * y.im)⁻¹ := rfl
def dt (x y z t : QC) : QC := x * t - y * z
theorem plucker (x0 y0 x1 y1 x2 y2 x3 y3 : QC) : dt x1 y1 x2 y2 * dt x3 y3 x0 y0 + dt x3 y3 x1 y1 * dt x2 y2 x0 y0 = dt x2 y2 x3 y3 * dt x0 y0 x1 y1 := by
 unfold dt
 apply qc_ext <;> simp only [qmr,qmi,qar,qai,qsr,qsi] <;> grind
theorem dt_lin (x1 y1 x2 y2 d e : QC) : dt x1 y1 (d * x2 + e * x1) (d * y2 + e * y1) = d * dt x1 y1 x2 y2 := by
 unfold dt
 apply qc_ext <;> simp only [qmr,qmi,qar,qai,qsr,qsi] <;> grind
theorem dt_lin2 (x1 y1 x2 y2 d e : QC) : dt (d * x2 + e * x1) (d * y2 + e * y1) x1 y1 = d * dt x2 y2 x1 y1 := by
 unfold dt
 apply qc_ext <;> simp only [qmr,qmi,qar,qai,qsr,qsi] <;> grind
theorem mulc (x y : QC) : x * y = y * x := by apply qc_ext <;> simp only [qmr,qmi] <;> grind
theorem mula (x y z : QC) : x * y * z = x * (y * z) := by apply qc_ext <;> simp only [qmr,qmi] <;> grind
theorem addc (x y : QC) : x + y = y + x := by apply qc_ext <;> simp only [qar,qai] <;> grind
theorem adda (x y z : QC) : x + y + z = x + (y + z) := by apply qc_ext <;> simp only [qar,qai] <;> grind
theorem muld (x y z : QC) : x * (y + z) = x * y + x * z := by apply qc_ext <;> simp only [qmr,qmi,qar,qai] <;> grind
theorem dmul (x y z : QC) : (y + z) * x = y * x + z * x := by apply qc_ext <;> simp only [qmr,qmi,qar,qai] <;> grind
instance : Std.Commutative (α := QC) (· * ·) := ⟨mulc⟩
instance : Std.Associative (α := QC) (· * ·) := ⟨mula⟩
instance : Std.Commutative (α := QC) (· + ·) := ⟨addc⟩
instance : Std.Associative (α := QC) (· + ·) := ⟨adda⟩
theorem first_eq (a b c d01 d12 d31 d30 d20 d23 x1 x2 x3 : QC) (h : d12 * d30 + d31 * d20 = d23 * d01) :
  (d01 * b * d12) * c * (d01 * c * x3 + d30 * a * x1) + (d01 * c * d31) * b * (d01 * b * x2 + d20 * a * x1) = (b * c * (d01 * d01)) * (a * d23 * x1 + b * d31 * x2 + c * d12 * x3) := by
 have e : (d01 * b * d12) * c * (d01 * c * x3 + d30 * a * x1) + (d01 * c * d31) * b * (d01 * b * x2 + d20 * a * x1) = (b * c * d01) * (a * (d12 * d30 + d31 * d20) * x1 + d01 * (b * d31 * x2 + c * d12 * x3)) := by
  simp only [muld,dmul]
  ac_rfl
 rw [e,h]
 simp only [muld]
 ac_rfl
instance : Neg QC := ⟨fun x => ⟨-x.re,-x.im⟩⟩
theorem qnr (x : QC) : (-x).re = -x.re := rfl
theorem qni (x : QC) : (-x).im = -x.im := rfl
theorem nmul (x y : QC) : -x * y = -(x * y) := by apply qc_ext <;> simp only [qmr,qmi,qnr,qni] <;> grind
theorem muln (x y : QC) : x * -y = -(x * y) := by apply qc_ext <;> simp only [qmr,qmi,qnr,qni] <;> grind
theorem nneg (x : QC) : - -x = x := by apply qc_ext <;> simp only [qnr,qni] <;> grind
theorem nadd (x y : QC) : -(x + y) = -x + -y := by apply qc_ext <;> simp only [qnr,qni,qar,qai] <;> grind
theorem subn (x y : QC) : x - y = x + -y := by apply qc_ext <;> simp only [qnr,qni,qar,qai,qsr,qsi] <;> grind
theorem dt_neg (x y z t : QC) : dt z t x y = -dt x y z t := by
 unfold dt
 apply qc_ext <;> simp only [qmr,qmi,qsr,qsi,qnr,qni] <;> grind
theorem dt_lin3 (x1 y1 x2 y2 d e : QC) : dt x2 y2 (d * x2 + e * x1) (d * y2 + e * y1) = e * dt x2 y2 x1 y1 := by
 unfold dt
 apply qc_ext <;> simp only [qmr,qmi,qar,qai,qsr,qsi] <;> grind
theorem dt_lin4 (x1 y1 x2 y2 d e : QC) : dt (d * x2 + e * x1) (d * y2 + e * y1) x2 y2 = e * dt x1 y1 x2 y2 := by
 unfold dt
 apply qc_ext <;> simp only [qmr,qmi,qar,qai,qsr,qsi] <;> grind
theorem sec_pl (d01 d12 d31 d30 d20 d23 : QC) (h : d12 * d30 + d31 * d20 = d23 * d01) : d23 * d01 + -(d12 * d30) = d31 * d20 := by
 rw [← h]
 apply qc_ext <;> simp only [qmr,qmi,qar,qai,qnr,qni] <;> grind
theorem third_pl (d01 d12 d31 d30 d20 d23 : QC) (h : d12 * d30 + d31 * d20 = d23 * d01) : d23 * d01 + -(d31 * d20) = d12 * d30 := by
 rw [← h]
 apply qc_ext <;> simp only [qmr,qmi,qar,qai,qnr,qni] <;> grind
theorem second_eq (a b c d01 d12 d31 d30 d20 d23 x1 x2 x3 : QC) (h : d12 * d30 + d31 * d20 = d23 * d01) :
  (d20 * a * -d12) * c * (-d20 * c * x3 + d30 * b * x2) + (-d20 * c * -d23) * a * (d01 * b * x2 + d20 * a * x1) = (a * c * (d20 * d20)) * (a * d23 * x1 + b * d31 * x2 + c * d12 * x3) := by
 have e : (d20 * a * -d12) * c * (-d20 * c * x3 + d30 * b * x2) + (-d20 * c * -d23) * a * (d01 * b * x2 + d20 * a * x1) = (a * c * d20) * (b * (d23 * d01 + -(d12 * d30)) * x2 + d20 * (a * d23 * x1 + c * d12 * x3)) := by
  simp only [muld,dmul,nmul,muln,nneg]
  ac_rfl
 rw [e,sec_pl d01 d12 d31 d30 d20 d23 h]
 simp only [muld]
 ac_rfl
theorem third_eq (a b c d01 d12 d31 d30 d20 d23 x1 x2 x3 : QC) (h : d12 * d30 + d31 * d20 = d23 * d01) :
  (d30 * a * d31) * b * (-d20 * c * x3 + d30 * b * x2) + (d30 * b * d23) * a * (d01 * c * x3 + d30 * a * x1) = (a * b * (d30 * d30)) * (a * d23 * x1 + b * d31 * x2 + c * d12 * x3) := by
 have e : (d30 * a * d31) * b * (-d20 * c * x3 + d30 * b * x2) + (d30 * b * d23) * a * (d01 * c * x3 + d30 * a * x1) = (a * b * d30) * (c * (d23 * d01 + -(d31 * d20)) * x3 + d30 * (a * d23 * x1 + b * d31 * x2)) := by
  simp only [muld,dmul,nmul,muln]
  ac_rfl
 rw [e,third_pl d01 d12 d31 d30 d20 d23 h]
 simp only [muld]
 ac_rfl
def q0 : QC := ⟨0,0⟩
def nrm (x : QC) : Rat := x.re * x.re + x.im * x.im
theorem nrm_mul (x y : QC) : nrm (x * y) = nrm x * nrm y := by unfold nrm; simp only [qmr,qmi]; grind
theorem nrm0 {x : QC} : nrm x = 0 ↔ x = ⟨0,0⟩ := by
 unfold nrm; rw [norm_zero]; cases x; simp
theorem mul0 {x y : QC} (hx : x ≠ ⟨0,0⟩) (hy : y ≠ ⟨0,0⟩) : x * y ≠ ⟨0,0⟩ := fun e => by
 have := (nrm0).2 e
 rw [nrm_mul,Rat.mul_eq_zero] at this
 exact this.elim (fun k => hx ((nrm0).1 k)) (fun k => hy ((nrm0).1 k))
theorem div_mul {x y : QC} (hy : y ≠ ⟨0,0⟩) : x / y * y = x := by
 have h1 : nrm y ≠ 0 := fun k => hy ((nrm0).1 k)
 have h2 : nrm y * (nrm y)⁻¹ = 1 := Rat.mul_inv_cancel _ h1
 apply qc_ext <;> simp only [qmr,qmi,qdr,qdi]
 ·show (x.re * y.re - x.im * -y.im) * (nrm y)⁻¹ * y.re - (x.re * -y.im + x.im * y.re) * (nrm y)⁻¹ * y.im = _
  generalize hv : (nrm y)⁻¹ = v at *
  unfold nrm at h2
  have : (x.re * y.re - x.im * -y.im) * v * y.re - (x.re * -y.im + x.im * y.re) * v * y.im = x.re * ((y.re * y.re + y.im * y.im) * v) := by grind
  rw [this,h2]; grind
 ·show (x.re * y.re - x.im * -y.im) * (nrm y)⁻¹ * y.im + (x.re * -y.im + x.im * y.re) * (nrm y)⁻¹ * y.re = _
  generalize hv : (nrm y)⁻¹ = v at *
  unfold nrm at h2
  have : (x.re * y.re - x.im * -y.im) * v * y.im + (x.re * -y.im + x.im * y.re) * v * y.re = x.im * ((y.re * y.re + y.im * y.im) * v) := by grind
  rw [this,h2]; grind
theorem sub0 {x y : QC} : x - y = ⟨0,0⟩ ↔ x = y := by
 constructor
 ·intro h
  have h1 : (x - y).re = 0 := by rw [h]
  have h2 : (x - y).im = 0 := by rw [h]
  rw [qsr] at h1; rw [qsi] at h2
  apply qc_ext <;> grind
 ·rintro rfl
  apply qc_ext <;> simp only [qsr,qsi] <;> grind
theorem cancel {x y z : QC} (hz : z ≠ ⟨0,0⟩) (e : x * z = y * z) : x = y := by
 by_cases hxy : x - y = ⟨0,0⟩
 ·exact sub0.1 hxy
 ·exfalso
  refine mul0 hxy hz ?_
  have : (x - y) * z = x * z - y * z := by apply qc_ext <;> simp only [qsr,qsi,qmr,qmi] <;> grind
  rw [this,e]; exact sub0.2 rfl
theorem div_eq {x y z : QC} (hy : y ≠ ⟨0,0⟩) (e : z * y = x) : x / y = z := cancel hy ((div_mul hy).trans e.symm)
theorem scale_div {k x y : QC} (hk : k ≠ ⟨0,0⟩) (hy : y ≠ ⟨0,0⟩) : (k * x) / (k * y) = x / y :=
 div_eq (mul0 hk hy) (by rw [mulc k y,← mula,div_mul hy,mulc])
def vX (a b c x1 y1 x2 y2 x3 y3 : QC) : QC := a * dt x2 y2 x3 y3 * x1 + b * dt x3 y3 x1 y1 * x2 + c * dt x1 y1 x2 y2 * x3
def vY (a b c x1 y1 x2 y2 x3 y3 : QC) : QC := a * dt x2 y2 x3 y3 * y1 + b * dt x3 y3 x1 y1 * y2 + c * dt x1 y1 x2 y2 * y3
theorem lastX_dt (x0 y0 x1 y1 x2 y2 a b : QC) : lastX x0 y0 x1 y1 x2 y2 a b = dt x0 y0 x1 y1 * b * x2 + dt x2 y2 x0 y0 * a * x1 := rfl
theorem lastY_dt (x0 y0 x1 y1 x2 y2 a b : QC) : lastY x0 y0 x1 y1 x2 y2 a b = dt x0 y0 x1 y1 * b * y2 + dt x2 y2 x0 y0 * a * y1 := rfl
section
variable (x0 y0 x1 y1 x2 y2 x3 y3 a b c : QC)
theorem face1X : lastX x1 y1 (lastX x0 y0 x1 y1 x2 y2 a b) (lastY x0 y0 x1 y1 x2 y2 a b) (lastX x0 y0 x1 y1 x3 y3 a c) (lastY x0 y0 x1 y1 x3 y3 a c) b c = (b * c * (dt x0 y0 x1 y1 * dt x0 y0 x1 y1)) * vX a b c x1 y1 x2 y2 x3 y3 := by
 rw [lastX_dt x1 y1]
 simp only [lastX_dt,lastY_dt,dt_lin,dt_lin2]
 exact first_eq a b c _ _ _ _ _ _ _ _ _ (plucker x0 y0 x1 y1 x2 y2 x3 y3)
theorem face1Y : lastY x1 y1 (lastX x0 y0 x1 y1 x2 y2 a b) (lastY x0 y0 x1 y1 x2 y2 a b) (lastX x0 y0 x1 y1 x3 y3 a c) (lastY x0 y0 x1 y1 x3 y3 a c) b c = (b * c * (dt x0 y0 x1 y1 * dt x0 y0 x1 y1)) * vY a b c x1 y1 x2 y2 x3 y3 := by
 rw [lastY_dt x1 y1]
 simp only [lastX_dt,lastY_dt,dt_lin,dt_lin2]
 exact first_eq a b c _ _ _ _ _ _ _ _ _ (plucker x0 y0 x1 y1 x2 y2 x3 y3)
theorem face2X : lastX x2 y2 (lastX x0 y0 x1 y1 x2 y2 a b) (lastY x0 y0 x1 y1 x2 y2 a b) (lastX x0 y0 x2 y2 x3 y3 b c) (lastY x0 y0 x2 y2 x3 y3 b c) a c = (a * c * (dt x2 y2 x0 y0 * dt x2 y2 x0 y0)) * vX a b c x1 y1 x2 y2 x3 y3 := by
 rw [lastX_dt x2 y2]
 simp only [lastX_dt,lastY_dt,dt_lin3,dt_lin2]
 rw [dt_neg x1 y1 x2 y2,dt_neg x2 y2 x0 y0,dt_neg x2 y2 x3 y3]
 exact second_eq a b c _ _ _ _ _ _ _ _ _ (plucker x0 y0 x1 y1 x2 y2 x3 y3)
theorem face2Y : lastY x2 y2 (lastX x0 y0 x1 y1 x2 y2 a b) (lastY x0 y0 x1 y1 x2 y2 a b) (lastX x0 y0 x2 y2 x3 y3 b c) (lastY x0 y0 x2 y2 x3 y3 b c) a c = (a * c * (dt x2 y2 x0 y0 * dt x2 y2 x0 y0)) * vY a b c x1 y1 x2 y2 x3 y3 := by
 rw [lastY_dt x2 y2]
 simp only [lastX_dt,lastY_dt,dt_lin3,dt_lin2]
 rw [dt_neg x1 y1 x2 y2,dt_neg x2 y2 x0 y0,dt_neg x2 y2 x3 y3]
 exact second_eq a b c _ _ _ _ _ _ _ _ _ (plucker x0 y0 x1 y1 x2 y2 x3 y3)
theorem face3X : lastX x3 y3 (lastX x0 y0 x1 y1 x3 y3 a c) (lastY x0 y0 x1 y1 x3 y3 a c) (lastX x0 y0 x2 y2 x3 y3 b c) (lastY x0 y0 x2 y2 x3 y3 b c) a b = (a * b * (dt x3 y3 x0 y0 * dt x3 y3 x0 y0)) * vX a b c x1 y1 x2 y2 x3 y3 := by
 rw [lastX_dt x3 y3]
 simp only [lastX_dt,lastY_dt,dt_lin3,dt_lin4]
 rw [dt_neg x2 y2 x0 y0]
 exact third_eq a b c _ _ _ _ _ _ _ _ _ (plucker x0 y0 x1 y1 x2 y2 x3 y3)
theorem face3Y : lastY x3 y3 (lastX x0 y0 x1 y1 x3 y3 a c) (lastY x0 y0 x1 y1 x3 y3 a c) (lastX x0 y0 x2 y2 x3 y3 b c) (lastY x0 y0 x2 y2 x3 y3 b c) a b = (a * b * (dt x3 y3 x0 y0 * dt x3 y3 x0 y0)) * vY a b c x1 y1 x2 y2 x3 y3 := by
 rw [lastY_dt x3 y3]
 simp only [lastX_dt,lastY_dt,dt_lin3,dt_lin4]
 rw [dt_neg x2 y2 x0 y0]
 exact third_eq a b c _ _ _ _ _ _ _ _ _ (plucker x0 y0 x1 y1 x2 y2 x3 y3)
end
theorem outP_scale {k : QC} (hk : k ≠ ⟨0,0⟩) (x y : QC) : outP (k * x) (k * y) = outP x y ∧ outPC (k * x) (k * y) = outPC x y := by
 unfold outP outPC
 by_cases hy : y = ⟨0,0⟩
 ·have : k * y = ⟨0,0⟩ := by rw [hy]; apply qc_ext <;> simp only [qmr,qmi] <;> grind
  rw [if_pos this,if_pos this,if_pos hy,if_pos hy]; exact ⟨rfl,rfl⟩
 ·rw [if_neg (mul0 hk hy),if_neg (mul0 hk hy),if_neg hy,if_neg hy,scale_div hk hy]; exact ⟨rfl,rfl⟩
theorem dt_ne {x y z t : QC} (h : ¬ x * t = z * y) : dt x y z t ≠ ⟨0,0⟩ := fun e => h (by
 have := sub0.1 e
 rw [this,mulc])
theorem faces_eq {x0 y0 x1 y1 x2 y2 x3 y3 a b c : QC} (ha : a ≠ ⟨0,0⟩) (hb : b ≠ ⟨0,0⟩) (hc : c ≠ ⟨0,0⟩) (h12 : ¬ lastBad x0 y0 x1 y1 x2 y2) (h13 : ¬ lastBad x0 y0 x1 y1 x3 y3) :
  outP (lastX x1 y1 (lastX x0 y0 x1 y1 x2 y2 a b) (lastY x0 y0 x1 y1 x2 y2 a b) (lastX x0 y0 x1 y1 x3 y3 a c) (lastY x0 y0 x1 y1 x3 y3 a c) b c) (lastY x1 y1 (lastX x0 y0 x1 y1 x2 y2 a b) (lastY x0 y0 x1 y1 x2 y2 a b) (lastX x0 y0 x1 y1 x3 y3 a c) (lastY x0 y0 x1 y1 x3 y3 a c) b c) = outP (vX a b c x1 y1 x2 y2 x3 y3) (vY a b c x1 y1 x2 y2 x3 y3) ∧
  outP (lastX x2 y2 (lastX x0 y0 x1 y1 x2 y2 a b) (lastY x0 y0 x1 y1 x2 y2 a b) (lastX x0 y0 x2 y2 x3 y3 b c) (lastY x0 y0 x2 y2 x3 y3 b c) a c) (lastY x2 y2 (lastX x0 y0 x1 y1 x2 y2 a b) (lastY x0 y0 x1 y1 x2 y2 a b) (lastX x0 y0 x2 y2 x3 y3 b c) (lastY x0 y0 x2 y2 x3 y3 b c) a c) = outP (vX a b c x1 y1 x2 y2 x3 y3) (vY a b c x1 y1 x2 y2 x3 y3) ∧
  outP (lastX x3 y3 (lastX x0 y0 x1 y1 x3 y3 a c) (lastY x0 y0 x1 y1 x3 y3 a c) (lastX x0 y0 x2 y2 x3 y3 b c) (lastY x0 y0 x2 y2 x3 y3 b c) a b) (lastY x3 y3 (lastX x0 y0 x1 y1 x3 y3 a c) (lastY x0 y0 x1 y1 x3 y3 a c) (lastX x0 y0 x2 y2 x3 y3 b c) (lastY x0 y0 x2 y2 x3 y3 b c) a b) = outP (vX a b c x1 y1 x2 y2 x3 y3) (vY a b c x1 y1 x2 y2 x3 y3) := by
 simp only [lastBad,not_or] at h12 h13
 have d01 := dt_ne h12.1
 have d20 := dt_ne h12.2.2
 have d30 := dt_ne h13.2.2
 refine ⟨?_,?_,?_⟩
 ·rw [face1X,face1Y]; exact (outP_scale (mul0 (mul0 hb hc) (mul0 d01 d01)) _ _).1
 ·rw [face2X,face2Y]; exact (outP_scale (mul0 (mul0 ha hc) (mul0 d20 d20)) _ _).1
 ·rw [face3X,face3Y]; exact (outP_scale (mul0 (mul0 ha hb) (mul0 d30 d30)) _ _).1
end Go.Proofs.YtepefgkihnjjaaaGreat
