/- Laws for the walk. -/
import Derived.Test.YtepefgkihnjjaaaGreatZzz
import Derived.Test.YtepefgkihnjjaaaGreatZas
import Derived.Test.YtepefgkihnjjaaaGreatZaz
set_option linter.unusedVariables false
namespace Go.Proofs.YtepefgkihnjjaaaGreat
open Go.RowKit Tr
theorem ncbox (w : World) (a0 a1 a2 a3 a4 a5 a6 a7 a8 b0 b1 b2 b3 b4 b5 b6 b7 b8 c0 c1 c2 c3 c4 c5 c6 c7 c8 d0 d1 d2 d3 d4 d5 d6 d7 : Value) :
  ∃ W,Hid (W = ((((w.alloc (.cells #[a0,a1,a2,a3,a4,a5,a6,a7,a8] 29)).alloc (.cells #[b0,b1,b2,b3,b4,b5,b6,b7,b8] 29)).alloc (.cells #[c0,c1,c2,c3,c4,c5,c6,c7,c8] 29)).alloc (.cells #[d0,d1,d2,d3,d4,d5,d6,d7] 27)).alloc (.cells #[.bool false,.bool false,.string ⟨#[]⟩,.bool false,.string ⟨#[]⟩,.bool false,.string ⟨#[]⟩,.bool false,.string ⟨#[]⟩] 29) ∧ Below w.heap.size w W ∧ W.heap.size = w.heap.size + 5 ∧ ∀ w1,Below W.heap.size W w1 → (w1.cell? ⟨w.heap.size,0,none⟩ = some (a0) ∧ w1.cell? ⟨w.heap.size,1,none⟩ = some (a1) ∧ w1.cell? ⟨w.heap.size,2,none⟩ = some (a2) ∧ w1.cell? ⟨w.heap.size,3,none⟩ = some (a3) ∧ w1.cell? ⟨w.heap.size,4,none⟩ = some (a4) ∧ w1.cell? ⟨w.heap.size,5,none⟩ = some (a5) ∧ w1.cell? ⟨w.heap.size,6,none⟩ = some (a6) ∧ w1.cell? ⟨w.heap.size,7,none⟩ = some (a7) ∧ w1.cell? ⟨w.heap.size,8,none⟩ = some (a8) ∧ w1.frozen? ⟨w.heap.size,0,none⟩ = false ∧ w1.frozen? ⟨w.heap.size,1,none⟩ = false ∧ w1.frozen? ⟨w.heap.size,2,none⟩ = false ∧ w1.frozen? ⟨w.heap.size,3,none⟩ = false ∧ w1.frozen? ⟨w.heap.size,4,none⟩ = false ∧ w1.frozen? ⟨w.heap.size,5,none⟩ = false ∧ w1.frozen? ⟨w.heap.size,6,none⟩ = false ∧ w1.frozen? ⟨w.heap.size,7,none⟩ = false ∧ w1.frozen? ⟨w.heap.size,8,none⟩ = false) ∧
   (w1.cell? ⟨w.heap.size + 1,0,none⟩ = some (b0) ∧ w1.cell? ⟨w.heap.size + 1,1,none⟩ = some (b1) ∧ w1.cell? ⟨w.heap.size + 1,2,none⟩ = some (b2) ∧ w1.cell? ⟨w.heap.size + 1,3,none⟩ = some (b3) ∧ w1.cell? ⟨w.heap.size + 1,4,none⟩ = some (b4) ∧ w1.cell? ⟨w.heap.size + 1,5,none⟩ = some (b5) ∧ w1.cell? ⟨w.heap.size + 1,6,none⟩ = some (b6) ∧ w1.cell? ⟨w.heap.size + 1,7,none⟩ = some (b7) ∧ w1.cell? ⟨w.heap.size + 1,8,none⟩ = some (b8) ∧ w1.frozen? ⟨w.heap.size + 1,0,none⟩ = false ∧ w1.frozen? ⟨w.heap.size + 1,1,none⟩ = false ∧ w1.frozen? ⟨w.heap.size + 1,2,none⟩ = false ∧ w1.frozen? ⟨w.heap.size + 1,3,none⟩ = false ∧ w1.frozen? ⟨w.heap.size + 1,4,none⟩ = false ∧ w1.frozen? ⟨w.heap.size + 1,5,none⟩ = false ∧ w1.frozen? ⟨w.heap.size + 1,6,none⟩ = false ∧ w1.frozen? ⟨w.heap.size + 1,7,none⟩ = false ∧ w1.frozen? ⟨w.heap.size + 1,8,none⟩ = false) ∧
   (w1.cell? ⟨w.heap.size + 2,0,none⟩ = some (c0) ∧ w1.cell? ⟨w.heap.size + 2,1,none⟩ = some (c1) ∧ w1.cell? ⟨w.heap.size + 2,2,none⟩ = some (c2) ∧ w1.cell? ⟨w.heap.size + 2,3,none⟩ = some (c3) ∧ w1.cell? ⟨w.heap.size + 2,4,none⟩ = some (c4) ∧ w1.cell? ⟨w.heap.size + 2,5,none⟩ = some (c5) ∧ w1.cell? ⟨w.heap.size + 2,6,none⟩ = some (c6) ∧ w1.cell? ⟨w.heap.size + 2,7,none⟩ = some (c7) ∧ w1.cell? ⟨w.heap.size + 2,8,none⟩ = some (c8) ∧ w1.frozen? ⟨w.heap.size + 2,0,none⟩ = false ∧ w1.frozen? ⟨w.heap.size + 2,1,none⟩ = false ∧ w1.frozen? ⟨w.heap.size + 2,2,none⟩ = false ∧ w1.frozen? ⟨w.heap.size + 2,3,none⟩ = false ∧ w1.frozen? ⟨w.heap.size + 2,4,none⟩ = false ∧ w1.frozen? ⟨w.heap.size + 2,5,none⟩ = false ∧ w1.frozen? ⟨w.heap.size + 2,6,none⟩ = false ∧ w1.frozen? ⟨w.heap.size + 2,7,none⟩ = false ∧ w1.frozen? ⟨w.heap.size + 2,8,none⟩ = false) ∧
   (w1.cell? ⟨w.heap.size + 3,0,none⟩ = some (d0) ∧ w1.cell? ⟨w.heap.size + 3,1,none⟩ = some (d1) ∧ w1.cell? ⟨w.heap.size + 3,2,none⟩ = some (d2) ∧ w1.cell? ⟨w.heap.size + 3,3,none⟩ = some (d3) ∧ w1.cell? ⟨w.heap.size + 3,4,none⟩ = some (d4) ∧ w1.cell? ⟨w.heap.size + 3,5,none⟩ = some (d5) ∧ w1.cell? ⟨w.heap.size + 3,6,none⟩ = some (d6) ∧ w1.cell? ⟨w.heap.size + 3,7,none⟩ = some (d7) ∧ w1.frozen? ⟨w.heap.size + 3,0,none⟩ = false ∧ w1.frozen? ⟨w.heap.size + 3,1,none⟩ = false ∧ w1.frozen? ⟨w.heap.size + 3,2,none⟩ = false ∧ w1.frozen? ⟨w.heap.size + 3,3,none⟩ = false ∧ w1.frozen? ⟨w.heap.size + 3,4,none⟩ = false ∧ w1.frozen? ⟨w.heap.size + 3,5,none⟩ = false ∧ w1.frozen? ⟨w.heap.size + 3,6,none⟩ = false ∧ w1.frozen? ⟨w.heap.size + 3,7,none⟩ = false) ∧
   (w1.cell? ⟨w.heap.size + 4,0,none⟩ = some (.bool false) ∧ w1.cell? ⟨w.heap.size + 4,1,none⟩ = some (.bool false) ∧ w1.cell? ⟨w.heap.size + 4,2,none⟩ = some (.string ⟨#[]⟩) ∧ w1.cell? ⟨w.heap.size + 4,3,none⟩ = some (.bool false) ∧ w1.cell? ⟨w.heap.size + 4,4,none⟩ = some (.string ⟨#[]⟩) ∧ w1.cell? ⟨w.heap.size + 4,5,none⟩ = some (.bool false) ∧ w1.cell? ⟨w.heap.size + 4,6,none⟩ = some (.string ⟨#[]⟩) ∧ w1.cell? ⟨w.heap.size + 4,7,none⟩ = some (.bool false) ∧ w1.cell? ⟨w.heap.size + 4,8,none⟩ = some (.string ⟨#[]⟩) ∧ w1.frozen? ⟨w.heap.size + 4,0,none⟩ = false ∧ w1.frozen? ⟨w.heap.size + 4,1,none⟩ = false ∧ w1.frozen? ⟨w.heap.size + 4,2,none⟩ = false ∧ w1.frozen? ⟨w.heap.size + 4,3,none⟩ = false ∧ w1.frozen? ⟨w.heap.size + 4,4,none⟩ = false ∧ w1.frozen? ⟨w.heap.size + 4,5,none⟩ = false ∧ w1.frozen? ⟨w.heap.size + 4,6,none⟩ = false ∧ w1.frozen? ⟨w.heap.size + 4,7,none⟩ = false ∧ w1.frozen? ⟨w.heap.size + 4,8,none⟩ = false)) := by
 obtain ⟨w1,hw1⟩ : ∃ w1,w1 = w.alloc (.cells #[a0,a1,a2,a3,a4,a5,a6,a7,a8] 29) := ⟨_,rfl⟩
 have hz1 : w1.heap.size = w.heap.size + 1 := by rw [hw1]; simp
 have hb1 : Below w.heap.size w w1 := by rw [hw1]; exact br.alloc (Nat.le_refl _) _
 obtain ⟨w2,hw2⟩ : ∃ w2,w2 = w1.alloc (.cells #[b0,b1,b2,b3,b4,b5,b6,b7,b8] 29) := ⟨_,rfl⟩
 have hz2 : w2.heap.size = w.heap.size + 2 := by rw [hw2]; simp [hz1]
 have hb2 : Below w1.heap.size w1 w2 := by rw [hw2]; exact br.alloc (Nat.le_refl _) _
 obtain ⟨w3,hw3⟩ : ∃ w3,w3 = w2.alloc (.cells #[c0,c1,c2,c3,c4,c5,c6,c7,c8] 29) := ⟨_,rfl⟩
 have hz3 : w3.heap.size = w.heap.size + 3 := by rw [hw3]; simp [hz2]
 have hb3 : Below w2.heap.size w2 w3 := by rw [hw3]; exact br.alloc (Nat.le_refl _) _
 obtain ⟨w4,hw4⟩ : ∃ w4,w4 = w3.alloc (.cells #[d0,d1,d2,d3,d4,d5,d6,d7] 27) := ⟨_,rfl⟩
 have hz4 : w4.heap.size = w.heap.size + 4 := by rw [hw4]; simp [hz3]
 have hb4 : Below w3.heap.size w3 w4 := by rw [hw4]; exact br.alloc (Nat.le_refl _) _
 obtain ⟨w5,hw5⟩ : ∃ w5,w5 = w4.alloc (.cells #[.bool false,.bool false,.string ⟨#[]⟩,.bool false,.string ⟨#[]⟩,.bool false,.string ⟨#[]⟩,.bool false,.string ⟨#[]⟩] 29) := ⟨_,rfl⟩
 have hz5 : w5.heap.size = w.heap.size + 5 := by rw [hw5]; simp [hz4]
 have hb5 : Below w4.heap.size w4 w5 := by rw [hw5]; exact br.alloc (Nat.le_refl _) _
 have t5 : Below w5.heap.size w5 w5 := Below.refl _ _
 have t4 : Below w4.heap.size w4 w5 := hb5.trans (t5.mono hb5.size)
 have t3 : Below w3.heap.size w3 w5 := hb4.trans (t4.mono hb4.size)
 have t2 : Below w2.heap.size w2 w5 := hb3.trans (t3.mono hb3.size)
 have t1 : Below w1.heap.size w1 w5 := hb2.trans (t2.mono hb2.size)
 refine ⟨w5,Lib.hid ⟨by rw [hw5,hw4,hw3,hw2,hw1],hb1.trans (t1.mono hb1.size),hz5,fun w' h => ?_⟩⟩
 have e0 := (t1.trans (h.mono t1.size)).block w.heap.size (by rw [hw1]; simp)
 rw [hw1,heap_alloc_new] at e0
 have e1 := (t2.trans (h.mono t2.size)).block w1.heap.size (by rw [hw2]; simp)
 rw [hw2,heap_alloc_new] at e1
 rw [hz1] at e1
 have e2 := (t3.trans (h.mono t3.size)).block w2.heap.size (by rw [hw3]; simp)
 rw [hw3,heap_alloc_new] at e2
 rw [hz2] at e2
 have e3 := (t4.trans (h.mono t4.size)).block w3.heap.size (by rw [hw4]; simp)
 rw [hw4,heap_alloc_new] at e3
 rw [hz3] at e3
 have e4 := (t5.trans (h.mono t5.size)).block w4.heap.size (by rw [hw5]; simp)
 rw [hw5,heap_alloc_new] at e4
 rw [hz4] at e4
 refine ⟨?_,?_,?_,?_,?_⟩ <;> simp [World.cell?,World.frozen?,e0,e1,e2,e3,e4]
set_option maxRecDepth 100000 in
set_option maxHeartbeats 6400000 in
theorem nc_case0 (a0 a1 a2 a3 a4 a5 a6 a7 a8 b0 b1 b2 b3 b4 b5 b6 b7 b8 c0 c1 c2 c3 c4 c5 c6 c7 c8 d0 d1 d2 d3 d4 d5 d6 d7 : Value) (H0 : ∀ w,Calls Tryz.prog 21 #[.agg #[a0,a1,a2,a3,a4,a5,a6,a7,a8]] w fun e w' => e = .returned (.bool false) ∧ Below w.heap.size w w') (w : World) : Calls Tryz.prog 10 #[.agg #[a0,a1,a2,a3,a4,a5,a6,a7,a8],.agg #[b0,b1,b2,b3,b4,b5,b6,b7,b8],.agg #[c0,c1,c2,c3,c4,c5,c6,c7,c8],.agg #[d0,d1,d2,d3,d4,d5,d6,d7]] w fun e w' => e = .returned (.tuple #[zP,.int .i64 2]) ∧ Below w.heap.size w w' := by
 obtain ⟨W,HV⟩ := ncbox w a0 a1 a2 a3 a4 a5 a6 a7 a8 b0 b1 b2 b3 b4 b5 b6 b7 b8 c0 c1 c2 c3 c4 c5 c6 c7 c8 d0 d1 d2 d3 d4 d5 d6 d7
 obtain ⟨⟨qa0,qa1,qa2,qa3,qa4,qa5,qa6,qa7,qa8,_⟩,⟨qb0,qb1,qb2,qb3,qb4,qb5,qb6,qb7,qb8,_⟩,⟨qc0,qc1,qc2,qc3,qc4,qc5,qc6,qc7,qc8,_⟩,⟨qd0,qd1,qd2,qd3,qd4,qd5,qd6,qd7,_⟩,_⟩ := HV.out.2.2.2 W br
 have hsz := HV.out.2.2.1
 have hsa : w.heap.size < W.heap.size := by omega
 have hsb : w.heap.size + 1 < W.heap.size := by omega
 have hsc : w.heap.size + 2 < W.heap.size := by omega
 have hsd : w.heap.size + 3 < W.heap.size := by omega
 go_enter Tryz.func10,Tryz.ntmps10
 go_wp2_with fail
 try simp only [Nat.add_assoc,Nat.reduceAdd]
 rw [← HV.out.1]
 refine wp_region_own [(.lit,[]),(.val,[]),(.val,[1]),(.val,[2]),(.skip,[3]),(.skip,[3]),(.skip,[3]),(.val,[3]),(.val,[7]),(.skip,[8]),(.skip,[8]),(.skip,[8]),(.val,[8]),(.val,[12]),(.skip,[13]),(.skip,[13]),(.skip,[13]),(.val,[13]),(.val,[17]),(.skip,[18]),(.skip,[18]),(.val,[18]),(.val,[21]),(.skip,[22]),(.skip,[22]),(.skip,[22]),(.val,[22])]
  (pickF [(1,fun v _ _ => v = .bool false),(2,fun v _ _ => v = .bool true),(3,fun v _ _ => v = .bool true),(7,fun v _ _ => v = .bool true),(8,fun v _ _ => v = .bool true),(12,fun v _ _ => v = .bool true),(13,fun v _ _ => v = .bool true),(17,fun v _ _ => v = .bool true),(18,fun v _ _ => v = .bool true),(21,fun v _ _ => v = .bool true),(22,fun v _ _ => v = .bool true),(26,fun v _ _ => v = .bool true)]) (by kernel_rfl) ?_ ?_ (by simp) (by simp) (by kernel_rfl)
 ·exact keeps_pick (by
   intro p hp
   simp only [List.mem_cons,List.not_mem_nil,or_false] at hp
   rcases hp with rfl | rfl | rfl | rfl | rfl | rfl | rfl | rfl | rfl | rfl | rfl | rfl <;> exact keeps_pure _)
 ·refine ⟨_,fun f w1 k1 => by (have xa0 := ct k1 hsa qa0; have xa1 := ct k1 hsa qa1; have xa2 := ct k1 hsa qa2; have xa3 := ct k1 hsa qa3; have xa4 := ct k1 hsa qa4; have xa5 := ct k1 hsa qa5; have xa6 := ct k1 hsa qa6; have xa7 := ct k1 hsa qa7; have xa8 := ct k1 hsa qa8; go_simp; rfl),?_⟩
  simp only [Act.put,nrA,nrB,nrC,Nat.reduceAdd]
  refine ⟨fun f w1 A1 k1 hA hN hd K hK => by
   go_simp
   refine (H0 w1).mono ?_
   rintro e w' ⟨rfl,hb⟩
   exact hK _ _ hb rfl,?_⟩
  simp only [Act.put,nrA,nrB,nrC,Nat.reduceAdd]
  refine ⟨fun f w1 A1 k1 hA hN hd K hK => by
   have e1 : f 1 = .bool false := hd 1 (by simp)
   simp only [e1] at hK ⊢
   go_simp
   exact hK _ _ br rfl,?_⟩
  simp only [Act.put,nrA,nrB,nrC,Nat.reduceAdd]
  refine ⟨fun f w1 A1 k1 hA hN hd K hK => by
   have e2 : f 2 = .bool true := hd 2 (by simp)
   simp only [e2] at hK ⊢
   go_simp
   exact hK _ _ br rfl,?_⟩
  simp only [Act.put,nrA,nrB,nrC,Nat.reduceAdd]
  refine ⟨fun f _ w1 A1 k1 hd => by (have e : f 3 = .bool true := hd 3 (by simp); simp only [e]; rfl),?_⟩
  simp only [Act.put,nrA,nrB,nrC,Nat.reduceAdd]
  refine ⟨fun f _ w1 A1 k1 hd => by (have e : f 3 = .bool true := hd 3 (by simp); simp only [e]; rfl),?_⟩
  simp only [Act.put,nrA,nrB,nrC,Nat.reduceAdd]
  refine ⟨fun f _ w1 A1 k1 hd => by (have e : f 3 = .bool true := hd 3 (by simp); simp only [e]; rfl),?_⟩
  simp only [Act.put,nrA,nrB,nrC,Nat.reduceAdd]
  refine ⟨fun f w1 A1 k1 hA hN hd K hK => by
   have e3 : f 3 = .bool true := hd 3 (by simp)
   simp only [e3] at hK ⊢
   go_simp
   exact hK _ _ br rfl,?_⟩
  simp only [Act.put,nrA,nrB,nrC,Nat.reduceAdd]
  refine ⟨fun f w1 A1 k1 hA hN hd K hK => by
   have e7 : f 7 = .bool true := hd 7 (by simp)
   simp only [e7] at hK ⊢
   go_simp
   exact hK _ _ br rfl,?_⟩
  simp only [Act.put,nrA,nrB,nrC,Nat.reduceAdd]
  refine ⟨fun f _ w1 A1 k1 hd => by (have e : f 8 = .bool true := hd 8 (by simp); simp only [e]; rfl),?_⟩
  simp only [Act.put,nrA,nrB,nrC,Nat.reduceAdd]
  refine ⟨fun f _ w1 A1 k1 hd => by (have e : f 8 = .bool true := hd 8 (by simp); simp only [e]; rfl),?_⟩
  simp only [Act.put,nrA,nrB,nrC,Nat.reduceAdd]
  refine ⟨fun f _ w1 A1 k1 hd => by (have e : f 8 = .bool true := hd 8 (by simp); simp only [e]; rfl),?_⟩
  simp only [Act.put,nrA,nrB,nrC,Nat.reduceAdd]
  refine ⟨fun f w1 A1 k1 hA hN hd K hK => by
   have e8 : f 8 = .bool true := hd 8 (by simp)
   simp only [e8] at hK ⊢
   go_simp
   exact hK _ _ br rfl,?_⟩
  simp only [Act.put,nrA,nrB,nrC,Nat.reduceAdd]
  refine ⟨fun f w1 A1 k1 hA hN hd K hK => by
   have e12 : f 12 = .bool true := hd 12 (by simp)
   simp only [e12] at hK ⊢
   go_simp
   exact hK _ _ br rfl,?_⟩
  simp only [Act.put,nrA,nrB,nrC,Nat.reduceAdd]
  refine ⟨fun f _ w1 A1 k1 hd => by (have e : f 13 = .bool true := hd 13 (by simp); simp only [e]; rfl),?_⟩
  simp only [Act.put,nrA,nrB,nrC,Nat.reduceAdd]
  refine ⟨fun f _ w1 A1 k1 hd => by (have e : f 13 = .bool true := hd 13 (by simp); simp only [e]; rfl),?_⟩
  simp only [Act.put,nrA,nrB,nrC,Nat.reduceAdd]
  refine ⟨fun f _ w1 A1 k1 hd => by (have e : f 13 = .bool true := hd 13 (by simp); simp only [e]; rfl),?_⟩
  simp only [Act.put,nrA,nrB,nrC,Nat.reduceAdd]
  refine ⟨fun f w1 A1 k1 hA hN hd K hK => by
   have e13 : f 13 = .bool true := hd 13 (by simp)
   simp only [e13] at hK ⊢
   go_simp
   exact hK _ _ br rfl,?_⟩
  simp only [Act.put,nrA,nrB,nrC,Nat.reduceAdd]
  refine ⟨fun f w1 A1 k1 hA hN hd K hK => by
   have e17 : f 17 = .bool true := hd 17 (by simp)
   simp only [e17] at hK ⊢
   go_simp
   exact hK _ _ br rfl,?_⟩
  simp only [Act.put,nrA,nrB,nrC,Nat.reduceAdd]
  refine ⟨fun f _ w1 A1 k1 hd => by (have e : f 18 = .bool true := hd 18 (by simp); simp only [e]; rfl),?_⟩
  simp only [Act.put,nrA,nrB,nrC,Nat.reduceAdd]
  refine ⟨fun f _ w1 A1 k1 hd => by (have e : f 18 = .bool true := hd 18 (by simp); simp only [e]; rfl),?_⟩
  simp only [Act.put,nrA,nrB,nrC,Nat.reduceAdd]
  refine ⟨fun f w1 A1 k1 hA hN hd K hK => by
   have e18 : f 18 = .bool true := hd 18 (by simp)
   simp only [e18] at hK ⊢
   go_simp
   exact hK _ _ br rfl,?_⟩
  simp only [Act.put,nrA,nrB,nrC,Nat.reduceAdd]
  refine ⟨fun f w1 A1 k1 hA hN hd K hK => by
   have e21 : f 21 = .bool true := hd 21 (by simp)
   simp only [e21] at hK ⊢
   go_simp
   exact hK _ _ br rfl,?_⟩
  simp only [Act.put,nrA,nrB,nrC,Nat.reduceAdd]
  refine ⟨fun f _ w1 A1 k1 hd => by (have e : f 22 = .bool true := hd 22 (by simp); simp only [e]; rfl),?_⟩
  simp only [Act.put,nrA,nrB,nrC,Nat.reduceAdd]
  refine ⟨fun f _ w1 A1 k1 hd => by (have e : f 22 = .bool true := hd 22 (by simp); simp only [e]; rfl),?_⟩
  simp only [Act.put,nrA,nrB,nrC,Nat.reduceAdd]
  refine ⟨fun f _ w1 A1 k1 hd => by (have e : f 22 = .bool true := hd 22 (by simp); simp only [e]; rfl),?_⟩
  simp only [Act.put,nrA,nrB,nrC,Nat.reduceAdd]
  refine ⟨fun f w1 A1 k1 hA hN hd K hK => by
   have e22 : f 22 = .bool true := hd 22 (by simp)
   simp only [e22] at hK ⊢
   go_simp
   exact hK _ _ br rfl,?_⟩
  intro f w1 A1 k1 hA1 hfr hap hF
  have e26 : f 26 = .bool true := hF.2
  clear hF hap hfr hA1
  simp only [Act.put,nrA,nrB,nrC]
  rw [e26]
  clear e26
  generalize f 1 = z1
  generalize f 2 = z2
  generalize f 3 = z3
  generalize f 7 = z7
  generalize f 8 = z8
  generalize f 12 = z12
  generalize f 13 = z13
  generalize f 17 = z17
  generalize f 18 = z18
  generalize f 21 = z21
  generalize f 22 = z22
  have hb1 : Below W.heap.size W w1 := br.drew.trans k1
  obtain ⟨_,_,_,_,y0,y1,y2,y3,y4,y5,y6,y7,y8,f0,f1,f2,f3,f4,f5,f6,f7,f8⟩ := HV.out.2.2.2 w1 hb1
  have HB := Lib.hid (HV.out.2.1.trans (hb1.mono HV.out.2.1.size))
  clear qa0 qa1 qa2 qa3 qa4 qa5 qa6 qa7 qa8 qb0 qb1 qb2 qb3 qb4 qb5 qb6 qb7 qb8 qc0 qc1 qc2 qc3 qc4 qc5 qc6 qc7 qc8 qd0 qd1 qd2 qd3 qd4 qd5 qd6 qd7 hb1 k1 hsz hsa hsb hsc hsd
  go_wp2_with fail
  refine bodyPost_ret (v := .tuple #[zP,.int .i64 2]) (by unfold zP; simp [results,Tryz.results10,go_sem,y0,y1,y2,y3,y4,y5,y6,y7,y8]) rfl ⟨rfl,?_⟩
  exact set_9 HB.out (by omega)
set_option maxRecDepth 100000 in
set_option maxHeartbeats 6400000 in
theorem nc_case1 (a0 a1 a2 a3 a4 a5 a6 a7 a8 b0 b1 b2 b3 b4 b5 b6 b7 b8 c0 c1 c2 c3 c4 c5 c6 c7 c8 d0 d1 d2 d3 d4 d5 d6 d7 : Value) (H0 : ∀ w,Calls Tryz.prog 21 #[.agg #[a0,a1,a2,a3,a4,a5,a6,a7,a8]] w fun e w' => e = .returned (.bool true) ∧ Below w.heap.size w w') (H1 : ∀ w,Calls Tryz.prog 21 #[.agg #[b0,b1,b2,b3,b4,b5,b6,b7,b8]] w fun e w' => e = .returned (.bool false) ∧ Below w.heap.size w w') (w : World) : Calls Tryz.prog 10 #[.agg #[a0,a1,a2,a3,a4,a5,a6,a7,a8],.agg #[b0,b1,b2,b3,b4,b5,b6,b7,b8],.agg #[c0,c1,c2,c3,c4,c5,c6,c7,c8],.agg #[d0,d1,d2,d3,d4,d5,d6,d7]] w fun e w' => e = .returned (.tuple #[zP,.int .i64 2]) ∧ Below w.heap.size w w' := by
 obtain ⟨W,HV⟩ := ncbox w a0 a1 a2 a3 a4 a5 a6 a7 a8 b0 b1 b2 b3 b4 b5 b6 b7 b8 c0 c1 c2 c3 c4 c5 c6 c7 c8 d0 d1 d2 d3 d4 d5 d6 d7
 obtain ⟨⟨qa0,qa1,qa2,qa3,qa4,qa5,qa6,qa7,qa8,_⟩,⟨qb0,qb1,qb2,qb3,qb4,qb5,qb6,qb7,qb8,_⟩,⟨qc0,qc1,qc2,qc3,qc4,qc5,qc6,qc7,qc8,_⟩,⟨qd0,qd1,qd2,qd3,qd4,qd5,qd6,qd7,_⟩,_⟩ := HV.out.2.2.2 W br
 have hsz := HV.out.2.2.1
 have hsa : w.heap.size < W.heap.size := by omega
 have hsb : w.heap.size + 1 < W.heap.size := by omega
 have hsc : w.heap.size + 2 < W.heap.size := by omega
 have hsd : w.heap.size + 3 < W.heap.size := by omega
 go_enter Tryz.func10,Tryz.ntmps10
 go_wp2_with fail
 try simp only [Nat.add_assoc,Nat.reduceAdd]
 rw [← HV.out.1]
 refine wp_region_own [(.lit,[]),(.val,[]),(.val,[1]),(.val,[2]),(.valg,[3]),(.valg,[3,4]),(.valg,[3,5]),(.val,[3,6]),(.val,[7]),(.skip,[8]),(.skip,[8]),(.skip,[8]),(.val,[8]),(.val,[12]),(.skip,[13]),(.skip,[13]),(.skip,[13]),(.val,[13]),(.val,[17]),(.skip,[18]),(.skip,[18]),(.val,[18]),(.val,[21]),(.skip,[22]),(.skip,[22]),(.skip,[22]),(.val,[22])]
  (pickF [(1,fun v _ _ => v = .bool true),(2,fun v _ _ => v = .bool false),(3,fun v _ _ => v = .bool false),(4,fun v _ _ => v = .agg #[b0,b1,b2,b3,b4,b5,b6,b7,b8]),(5,fun v _ _ => v = .bool false),(6,fun v _ _ => v = .bool true),(7,fun v _ _ => v = .bool true),(8,fun v _ _ => v = .bool true),(12,fun v _ _ => v = .bool true),(13,fun v _ _ => v = .bool true),(17,fun v _ _ => v = .bool true),(18,fun v _ _ => v = .bool true),(21,fun v _ _ => v = .bool true),(22,fun v _ _ => v = .bool true),(26,fun v _ _ => v = .bool true)]) (by kernel_rfl) ?_ ?_ (by simp) (by simp) (by kernel_rfl)
 ·exact keeps_pick (by
   intro p hp
   simp only [List.mem_cons,List.not_mem_nil,or_false] at hp
   rcases hp with rfl | rfl | rfl | rfl | rfl | rfl | rfl | rfl | rfl | rfl | rfl | rfl | rfl | rfl | rfl <;> exact keeps_pure _)
 ·refine ⟨_,fun f w1 k1 => by (have xa0 := ct k1 hsa qa0; have xa1 := ct k1 hsa qa1; have xa2 := ct k1 hsa qa2; have xa3 := ct k1 hsa qa3; have xa4 := ct k1 hsa qa4; have xa5 := ct k1 hsa qa5; have xa6 := ct k1 hsa qa6; have xa7 := ct k1 hsa qa7; have xa8 := ct k1 hsa qa8; go_simp; rfl),?_⟩
  simp only [Act.put,nrA,nrB,nrC,Nat.reduceAdd]
  refine ⟨fun f w1 A1 k1 hA hN hd K hK => by
   go_simp
   refine (H0 w1).mono ?_
   rintro e w' ⟨rfl,hb⟩
   exact hK _ _ hb rfl,?_⟩
  simp only [Act.put,nrA,nrB,nrC,Nat.reduceAdd]
  refine ⟨fun f w1 A1 k1 hA hN hd K hK => by
   have e1 : f 1 = .bool true := hd 1 (by simp)
   simp only [e1] at hK ⊢
   go_simp
   exact hK _ _ br rfl,?_⟩
  simp only [Act.put,nrA,nrB,nrC,Nat.reduceAdd]
  refine ⟨fun f w1 A1 k1 hA hN hd K hK => by
   have e2 : f 2 = .bool false := hd 2 (by simp)
   simp only [e2] at hK ⊢
   go_simp
   exact hK _ _ br rfl,?_⟩
  simp only [Act.put,nrA,nrB,nrC,Nat.reduceAdd]
  refine ⟨fun f _ w1 A1 k1 hd => by (have e : f 3 = .bool false := hd 3 (by simp); simp only [e]; rfl),fun f w1 A1 k1 hA hN hd K hK => by
   have e3 : f 3 = .bool false := hd 3 (by simp)
   simp only [e3] at hK ⊢
   have xb0 := ct k1 hsb qb0
   have xb1 := ct k1 hsb qb1
   have xb2 := ct k1 hsb qb2
   have xb3 := ct k1 hsb qb3
   have xb4 := ct k1 hsb qb4
   have xb5 := ct k1 hsb qb5
   have xb6 := ct k1 hsb qb6
   have xb7 := ct k1 hsb qb7
   have xb8 := ct k1 hsb qb8
   go_simp
   exact hK _ _ br rfl,?_⟩
  simp only [Act.put,nrA,nrB,nrC,Nat.reduceAdd]
  refine ⟨fun f _ w1 A1 k1 hd => by (have e : f 3 = .bool false := hd 3 (by simp); simp only [e]; rfl),fun f w1 A1 k1 hA hN hd K hK => by
   have e3 : f 3 = .bool false := hd 3 (by simp)
   have e4 : f 4 = .agg #[b0,b1,b2,b3,b4,b5,b6,b7,b8] := hd 4 (by simp)
   simp only [e3,e4] at hK ⊢
   go_simp
   refine (H1 w1).mono ?_
   rintro e w' ⟨rfl,hb⟩
   exact hK _ _ hb rfl,?_⟩
  simp only [Act.put,nrA,nrB,nrC,Nat.reduceAdd]
  refine ⟨fun f _ w1 A1 k1 hd => by (have e : f 3 = .bool false := hd 3 (by simp); simp only [e]; rfl),fun f w1 A1 k1 hA hN hd K hK => by
   have e3 : f 3 = .bool false := hd 3 (by simp)
   have e5 : f 5 = .bool false := hd 5 (by simp)
   simp only [e3,e5] at hK ⊢
   go_simp
   exact hK _ _ br rfl,?_⟩
  simp only [Act.put,nrA,nrB,nrC,Nat.reduceAdd]
  refine ⟨fun f w1 A1 k1 hA hN hd K hK => by
   have e3 : f 3 = .bool false := hd 3 (by simp)
   have e6 : f 6 = .bool true := hd 6 (by simp)
   simp only [e3,e6] at hK ⊢
   go_simp
   exact hK _ _ br rfl,?_⟩
  simp only [Act.put,nrA,nrB,nrC,Nat.reduceAdd]
  refine ⟨fun f w1 A1 k1 hA hN hd K hK => by
   have e7 : f 7 = .bool true := hd 7 (by simp)
   simp only [e7] at hK ⊢
   go_simp
   exact hK _ _ br rfl,?_⟩
  simp only [Act.put,nrA,nrB,nrC,Nat.reduceAdd]
  refine ⟨fun f _ w1 A1 k1 hd => by (have e : f 8 = .bool true := hd 8 (by simp); simp only [e]; rfl),?_⟩
  simp only [Act.put,nrA,nrB,nrC,Nat.reduceAdd]
  refine ⟨fun f _ w1 A1 k1 hd => by (have e : f 8 = .bool true := hd 8 (by simp); simp only [e]; rfl),?_⟩
  simp only [Act.put,nrA,nrB,nrC,Nat.reduceAdd]
  refine ⟨fun f _ w1 A1 k1 hd => by (have e : f 8 = .bool true := hd 8 (by simp); simp only [e]; rfl),?_⟩
  simp only [Act.put,nrA,nrB,nrC,Nat.reduceAdd]
  refine ⟨fun f w1 A1 k1 hA hN hd K hK => by
   have e8 : f 8 = .bool true := hd 8 (by simp)
   simp only [e8] at hK ⊢
   go_simp
   exact hK _ _ br rfl,?_⟩
  simp only [Act.put,nrA,nrB,nrC,Nat.reduceAdd]
  refine ⟨fun f w1 A1 k1 hA hN hd K hK => by
   have e12 : f 12 = .bool true := hd 12 (by simp)
   simp only [e12] at hK ⊢
   go_simp
   exact hK _ _ br rfl,?_⟩
  simp only [Act.put,nrA,nrB,nrC,Nat.reduceAdd]
  refine ⟨fun f _ w1 A1 k1 hd => by (have e : f 13 = .bool true := hd 13 (by simp); simp only [e]; rfl),?_⟩
  simp only [Act.put,nrA,nrB,nrC,Nat.reduceAdd]
  refine ⟨fun f _ w1 A1 k1 hd => by (have e : f 13 = .bool true := hd 13 (by simp); simp only [e]; rfl),?_⟩
  simp only [Act.put,nrA,nrB,nrC,Nat.reduceAdd]
  refine ⟨fun f _ w1 A1 k1 hd => by (have e : f 13 = .bool true := hd 13 (by simp); simp only [e]; rfl),?_⟩
  simp only [Act.put,nrA,nrB,nrC,Nat.reduceAdd]
  refine ⟨fun f w1 A1 k1 hA hN hd K hK => by
   have e13 : f 13 = .bool true := hd 13 (by simp)
   simp only [e13] at hK ⊢
   go_simp
   exact hK _ _ br rfl,?_⟩
  simp only [Act.put,nrA,nrB,nrC,Nat.reduceAdd]
  refine ⟨fun f w1 A1 k1 hA hN hd K hK => by
   have e17 : f 17 = .bool true := hd 17 (by simp)
   simp only [e17] at hK ⊢
   go_simp
   exact hK _ _ br rfl,?_⟩
  simp only [Act.put,nrA,nrB,nrC,Nat.reduceAdd]
  refine ⟨fun f _ w1 A1 k1 hd => by (have e : f 18 = .bool true := hd 18 (by simp); simp only [e]; rfl),?_⟩
  simp only [Act.put,nrA,nrB,nrC,Nat.reduceAdd]
  refine ⟨fun f _ w1 A1 k1 hd => by (have e : f 18 = .bool true := hd 18 (by simp); simp only [e]; rfl),?_⟩
  simp only [Act.put,nrA,nrB,nrC,Nat.reduceAdd]
  refine ⟨fun f w1 A1 k1 hA hN hd K hK => by
   have e18 : f 18 = .bool true := hd 18 (by simp)
   simp only [e18] at hK ⊢
   go_simp
   exact hK _ _ br rfl,?_⟩
  simp only [Act.put,nrA,nrB,nrC,Nat.reduceAdd]
  refine ⟨fun f w1 A1 k1 hA hN hd K hK => by
   have e21 : f 21 = .bool true := hd 21 (by simp)
   simp only [e21] at hK ⊢
   go_simp
   exact hK _ _ br rfl,?_⟩
  simp only [Act.put,nrA,nrB,nrC,Nat.reduceAdd]
  refine ⟨fun f _ w1 A1 k1 hd => by (have e : f 22 = .bool true := hd 22 (by simp); simp only [e]; rfl),?_⟩
  simp only [Act.put,nrA,nrB,nrC,Nat.reduceAdd]
  refine ⟨fun f _ w1 A1 k1 hd => by (have e : f 22 = .bool true := hd 22 (by simp); simp only [e]; rfl),?_⟩
  simp only [Act.put,nrA,nrB,nrC,Nat.reduceAdd]
  refine ⟨fun f _ w1 A1 k1 hd => by (have e : f 22 = .bool true := hd 22 (by simp); simp only [e]; rfl),?_⟩
  simp only [Act.put,nrA,nrB,nrC,Nat.reduceAdd]
  refine ⟨fun f w1 A1 k1 hA hN hd K hK => by
   have e22 : f 22 = .bool true := hd 22 (by simp)
   simp only [e22] at hK ⊢
   go_simp
   exact hK _ _ br rfl,?_⟩
  intro f w1 A1 k1 hA1 hfr hap hF
  have e26 : f 26 = .bool true := hF.2
  clear hF hap hfr hA1
  simp only [Act.put,nrA,nrB,nrC]
  rw [e26]
  clear e26
  generalize f 1 = z1
  generalize f 2 = z2
  generalize f 3 = z3
  generalize f 4 = z4
  generalize f 5 = z5
  generalize f 6 = z6
  generalize f 7 = z7
  generalize f 8 = z8
  generalize f 12 = z12
  generalize f 13 = z13
  generalize f 17 = z17
  generalize f 18 = z18
  generalize f 21 = z21
  generalize f 22 = z22
  have hb1 : Below W.heap.size W w1 := br.drew.trans k1
  obtain ⟨_,_,_,_,y0,y1,y2,y3,y4,y5,y6,y7,y8,f0,f1,f2,f3,f4,f5,f6,f7,f8⟩ := HV.out.2.2.2 w1 hb1
  have HB := Lib.hid (HV.out.2.1.trans (hb1.mono HV.out.2.1.size))
  clear qa0 qa1 qa2 qa3 qa4 qa5 qa6 qa7 qa8 qb0 qb1 qb2 qb3 qb4 qb5 qb6 qb7 qb8 qc0 qc1 qc2 qc3 qc4 qc5 qc6 qc7 qc8 qd0 qd1 qd2 qd3 qd4 qd5 qd6 qd7 hb1 k1 hsz hsa hsb hsc hsd
  go_wp2_with fail
  refine bodyPost_ret (v := .tuple #[zP,.int .i64 2]) (by unfold zP; simp [results,Tryz.results10,go_sem,y0,y1,y2,y3,y4,y5,y6,y7,y8]) rfl ⟨rfl,?_⟩
  exact set_9 HB.out (by omega)
set_option maxRecDepth 100000 in
set_option maxHeartbeats 6400000 in
theorem nc_case2 (a0 a1 a2 a3 a4 a5 a6 a7 a8 b0 b1 b2 b3 b4 b5 b6 b7 b8 c0 c1 c2 c3 c4 c5 c6 c7 c8 d0 d1 d2 d3 d4 d5 d6 d7 : Value) (H0 : ∀ w,Calls Tryz.prog 21 #[.agg #[a0,a1,a2,a3,a4,a5,a6,a7,a8]] w fun e w' => e = .returned (.bool true) ∧ Below w.heap.size w w') (H1 : ∀ w,Calls Tryz.prog 21 #[.agg #[b0,b1,b2,b3,b4,b5,b6,b7,b8]] w fun e w' => e = .returned (.bool true) ∧ Below w.heap.size w w') (H2 : ∀ w,Calls Tryz.prog 21 #[.agg #[c0,c1,c2,c3,c4,c5,c6,c7,c8]] w fun e w' => e = .returned (.bool false) ∧ Below w.heap.size w w') (w : World) : Calls Tryz.prog 10 #[.agg #[a0,a1,a2,a3,a4,a5,a6,a7,a8],.agg #[b0,b1,b2,b3,b4,b5,b6,b7,b8],.agg #[c0,c1,c2,c3,c4,c5,c6,c7,c8],.agg #[d0,d1,d2,d3,d4,d5,d6,d7]] w fun e w' => e = .returned (.tuple #[zP,.int .i64 2]) ∧ Below w.heap.size w w' := by
 obtain ⟨W,HV⟩ := ncbox w a0 a1 a2 a3 a4 a5 a6 a7 a8 b0 b1 b2 b3 b4 b5 b6 b7 b8 c0 c1 c2 c3 c4 c5 c6 c7 c8 d0 d1 d2 d3 d4 d5 d6 d7
 obtain ⟨⟨qa0,qa1,qa2,qa3,qa4,qa5,qa6,qa7,qa8,_⟩,⟨qb0,qb1,qb2,qb3,qb4,qb5,qb6,qb7,qb8,_⟩,⟨qc0,qc1,qc2,qc3,qc4,qc5,qc6,qc7,qc8,_⟩,⟨qd0,qd1,qd2,qd3,qd4,qd5,qd6,qd7,_⟩,_⟩ := HV.out.2.2.2 W br
 have hsz := HV.out.2.2.1
 have hsa : w.heap.size < W.heap.size := by omega
 have hsb : w.heap.size + 1 < W.heap.size := by omega
 have hsc : w.heap.size + 2 < W.heap.size := by omega
 have hsd : w.heap.size + 3 < W.heap.size := by omega
 go_enter Tryz.func10,Tryz.ntmps10
 go_wp2_with fail
 try simp only [Nat.add_assoc,Nat.reduceAdd]
 rw [← HV.out.1]
 refine wp_region_own [(.lit,[]),(.val,[]),(.val,[1]),(.val,[2]),(.valg,[3]),(.valg,[3,4]),(.valg,[3,5]),(.val,[3,6]),(.val,[7]),(.valg,[8]),(.valg,[8,9]),(.valg,[8,10]),(.val,[8,11]),(.val,[12]),(.skip,[13]),(.skip,[13]),(.skip,[13]),(.val,[13]),(.val,[17]),(.skip,[18]),(.skip,[18]),(.val,[18]),(.val,[21]),(.skip,[22]),(.skip,[22]),(.skip,[22]),(.val,[22])]
  (pickF [(1,fun v _ _ => v = .bool true),(2,fun v _ _ => v = .bool false),(3,fun v _ _ => v = .bool false),(4,fun v _ _ => v = .agg #[b0,b1,b2,b3,b4,b5,b6,b7,b8]),(5,fun v _ _ => v = .bool true),(6,fun v _ _ => v = .bool false),(7,fun v _ _ => v = .bool false),(8,fun v _ _ => v = .bool false),(9,fun v _ _ => v = .agg #[c0,c1,c2,c3,c4,c5,c6,c7,c8]),(10,fun v _ _ => v = .bool false),(11,fun v _ _ => v = .bool true),(12,fun v _ _ => v = .bool true),(13,fun v _ _ => v = .bool true),(17,fun v _ _ => v = .bool true),(18,fun v _ _ => v = .bool true),(21,fun v _ _ => v = .bool true),(22,fun v _ _ => v = .bool true),(26,fun v _ _ => v = .bool true)]) (by kernel_rfl) ?_ ?_ (by simp) (by simp) (by kernel_rfl)
 ·exact keeps_pick (by
   intro p hp
   simp only [List.mem_cons,List.not_mem_nil,or_false] at hp
   rcases hp with rfl | rfl | rfl | rfl | rfl | rfl | rfl | rfl | rfl | rfl | rfl | rfl | rfl | rfl | rfl | rfl | rfl | rfl <;> exact keeps_pure _)
 ·refine ⟨_,fun f w1 k1 => by (have xa0 := ct k1 hsa qa0; have xa1 := ct k1 hsa qa1; have xa2 := ct k1 hsa qa2; have xa3 := ct k1 hsa qa3; have xa4 := ct k1 hsa qa4; have xa5 := ct k1 hsa qa5; have xa6 := ct k1 hsa qa6; have xa7 := ct k1 hsa qa7; have xa8 := ct k1 hsa qa8; go_simp; rfl),?_⟩
  simp only [Act.put,nrA,nrB,nrC,Nat.reduceAdd]
  refine ⟨fun f w1 A1 k1 hA hN hd K hK => by
   go_simp
   refine (H0 w1).mono ?_
   rintro e w' ⟨rfl,hb⟩
   exact hK _ _ hb rfl,?_⟩
  simp only [Act.put,nrA,nrB,nrC,Nat.reduceAdd]
  refine ⟨fun f w1 A1 k1 hA hN hd K hK => by
   have e1 : f 1 = .bool true := hd 1 (by simp)
   simp only [e1] at hK ⊢
   go_simp
   exact hK _ _ br rfl,?_⟩
  simp only [Act.put,nrA,nrB,nrC,Nat.reduceAdd]
  refine ⟨fun f w1 A1 k1 hA hN hd K hK => by
   have e2 : f 2 = .bool false := hd 2 (by simp)
   simp only [e2] at hK ⊢
   go_simp
   exact hK _ _ br rfl,?_⟩
  simp only [Act.put,nrA,nrB,nrC,Nat.reduceAdd]
  refine ⟨fun f _ w1 A1 k1 hd => by (have e : f 3 = .bool false := hd 3 (by simp); simp only [e]; rfl),fun f w1 A1 k1 hA hN hd K hK => by
   have e3 : f 3 = .bool false := hd 3 (by simp)
   simp only [e3] at hK ⊢
   have xb0 := ct k1 hsb qb0
   have xb1 := ct k1 hsb qb1
   have xb2 := ct k1 hsb qb2
   have xb3 := ct k1 hsb qb3
   have xb4 := ct k1 hsb qb4
   have xb5 := ct k1 hsb qb5
   have xb6 := ct k1 hsb qb6
   have xb7 := ct k1 hsb qb7
   have xb8 := ct k1 hsb qb8
   go_simp
   exact hK _ _ br rfl,?_⟩
  simp only [Act.put,nrA,nrB,nrC,Nat.reduceAdd]
  refine ⟨fun f _ w1 A1 k1 hd => by (have e : f 3 = .bool false := hd 3 (by simp); simp only [e]; rfl),fun f w1 A1 k1 hA hN hd K hK => by
   have e3 : f 3 = .bool false := hd 3 (by simp)
   have e4 : f 4 = .agg #[b0,b1,b2,b3,b4,b5,b6,b7,b8] := hd 4 (by simp)
   simp only [e3,e4] at hK ⊢
   go_simp
   refine (H1 w1).mono ?_
   rintro e w' ⟨rfl,hb⟩
   exact hK _ _ hb rfl,?_⟩
  simp only [Act.put,nrA,nrB,nrC,Nat.reduceAdd]
  refine ⟨fun f _ w1 A1 k1 hd => by (have e : f 3 = .bool false := hd 3 (by simp); simp only [e]; rfl),fun f w1 A1 k1 hA hN hd K hK => by
   have e3 : f 3 = .bool false := hd 3 (by simp)
   have e5 : f 5 = .bool true := hd 5 (by simp)
   simp only [e3,e5] at hK ⊢
   go_simp
   exact hK _ _ br rfl,?_⟩
  simp only [Act.put,nrA,nrB,nrC,Nat.reduceAdd]
  refine ⟨fun f w1 A1 k1 hA hN hd K hK => by
   have e3 : f 3 = .bool false := hd 3 (by simp)
   have e6 : f 6 = .bool false := hd 6 (by simp)
   simp only [e3,e6] at hK ⊢
   go_simp
   exact hK _ _ br rfl,?_⟩
  simp only [Act.put,nrA,nrB,nrC,Nat.reduceAdd]
  refine ⟨fun f w1 A1 k1 hA hN hd K hK => by
   have e7 : f 7 = .bool false := hd 7 (by simp)
   simp only [e7] at hK ⊢
   go_simp
   exact hK _ _ br rfl,?_⟩
  simp only [Act.put,nrA,nrB,nrC,Nat.reduceAdd]
  refine ⟨fun f _ w1 A1 k1 hd => by (have e : f 8 = .bool false := hd 8 (by simp); simp only [e]; rfl),fun f w1 A1 k1 hA hN hd K hK => by
   have e8 : f 8 = .bool false := hd 8 (by simp)
   simp only [e8] at hK ⊢
   have xc0 := ct k1 hsc qc0
   have xc1 := ct k1 hsc qc1
   have xc2 := ct k1 hsc qc2
   have xc3 := ct k1 hsc qc3
   have xc4 := ct k1 hsc qc4
   have xc5 := ct k1 hsc qc5
   have xc6 := ct k1 hsc qc6
   have xc7 := ct k1 hsc qc7
   have xc8 := ct k1 hsc qc8
   go_simp
   exact hK _ _ br rfl,?_⟩
  simp only [Act.put,nrA,nrB,nrC,Nat.reduceAdd]
  refine ⟨fun f _ w1 A1 k1 hd => by (have e : f 8 = .bool false := hd 8 (by simp); simp only [e]; rfl),fun f w1 A1 k1 hA hN hd K hK => by
   have e8 : f 8 = .bool false := hd 8 (by simp)
   have e9 : f 9 = .agg #[c0,c1,c2,c3,c4,c5,c6,c7,c8] := hd 9 (by simp)
   simp only [e8,e9] at hK ⊢
   go_simp
   refine (H2 w1).mono ?_
   rintro e w' ⟨rfl,hb⟩
   exact hK _ _ hb rfl,?_⟩
  simp only [Act.put,nrA,nrB,nrC,Nat.reduceAdd]
  refine ⟨fun f _ w1 A1 k1 hd => by (have e : f 8 = .bool false := hd 8 (by simp); simp only [e]; rfl),fun f w1 A1 k1 hA hN hd K hK => by
   have e8 : f 8 = .bool false := hd 8 (by simp)
   have e10 : f 10 = .bool false := hd 10 (by simp)
   simp only [e8,e10] at hK ⊢
   go_simp
   exact hK _ _ br rfl,?_⟩
  simp only [Act.put,nrA,nrB,nrC,Nat.reduceAdd]
  refine ⟨fun f w1 A1 k1 hA hN hd K hK => by
   have e8 : f 8 = .bool false := hd 8 (by simp)
   have e11 : f 11 = .bool true := hd 11 (by simp)
   simp only [e8,e11] at hK ⊢
   go_simp
   exact hK _ _ br rfl,?_⟩
  simp only [Act.put,nrA,nrB,nrC,Nat.reduceAdd]
  refine ⟨fun f w1 A1 k1 hA hN hd K hK => by
   have e12 : f 12 = .bool true := hd 12 (by simp)
   simp only [e12] at hK ⊢
   go_simp
   exact hK _ _ br rfl,?_⟩
  simp only [Act.put,nrA,nrB,nrC,Nat.reduceAdd]
  refine ⟨fun f _ w1 A1 k1 hd => by (have e : f 13 = .bool true := hd 13 (by simp); simp only [e]; rfl),?_⟩
  simp only [Act.put,nrA,nrB,nrC,Nat.reduceAdd]
  refine ⟨fun f _ w1 A1 k1 hd => by (have e : f 13 = .bool true := hd 13 (by simp); simp only [e]; rfl),?_⟩
  simp only [Act.put,nrA,nrB,nrC,Nat.reduceAdd]
  refine ⟨fun f _ w1 A1 k1 hd => by (have e : f 13 = .bool true := hd 13 (by simp); simp only [e]; rfl),?_⟩
  simp only [Act.put,nrA,nrB,nrC,Nat.reduceAdd]
  refine ⟨fun f w1 A1 k1 hA hN hd K hK => by
   have e13 : f 13 = .bool true := hd 13 (by simp)
   simp only [e13] at hK ⊢
   go_simp
   exact hK _ _ br rfl,?_⟩
  simp only [Act.put,nrA,nrB,nrC,Nat.reduceAdd]
  refine ⟨fun f w1 A1 k1 hA hN hd K hK => by
   have e17 : f 17 = .bool true := hd 17 (by simp)
   simp only [e17] at hK ⊢
   go_simp
   exact hK _ _ br rfl,?_⟩
  simp only [Act.put,nrA,nrB,nrC,Nat.reduceAdd]
  refine ⟨fun f _ w1 A1 k1 hd => by (have e : f 18 = .bool true := hd 18 (by simp); simp only [e]; rfl),?_⟩
  simp only [Act.put,nrA,nrB,nrC,Nat.reduceAdd]
  refine ⟨fun f _ w1 A1 k1 hd => by (have e : f 18 = .bool true := hd 18 (by simp); simp only [e]; rfl),?_⟩
  simp only [Act.put,nrA,nrB,nrC,Nat.reduceAdd]
  refine ⟨fun f w1 A1 k1 hA hN hd K hK => by
   have e18 : f 18 = .bool true := hd 18 (by simp)
   simp only [e18] at hK ⊢
   go_simp
   exact hK _ _ br rfl,?_⟩
  simp only [Act.put,nrA,nrB,nrC,Nat.reduceAdd]
  refine ⟨fun f w1 A1 k1 hA hN hd K hK => by
   have e21 : f 21 = .bool true := hd 21 (by simp)
   simp only [e21] at hK ⊢
   go_simp
   exact hK _ _ br rfl,?_⟩
  simp only [Act.put,nrA,nrB,nrC,Nat.reduceAdd]
  refine ⟨fun f _ w1 A1 k1 hd => by (have e : f 22 = .bool true := hd 22 (by simp); simp only [e]; rfl),?_⟩
  simp only [Act.put,nrA,nrB,nrC,Nat.reduceAdd]
  refine ⟨fun f _ w1 A1 k1 hd => by (have e : f 22 = .bool true := hd 22 (by simp); simp only [e]; rfl),?_⟩
  simp only [Act.put,nrA,nrB,nrC,Nat.reduceAdd]
  refine ⟨fun f _ w1 A1 k1 hd => by (have e : f 22 = .bool true := hd 22 (by simp); simp only [e]; rfl),?_⟩
  simp only [Act.put,nrA,nrB,nrC,Nat.reduceAdd]
  refine ⟨fun f w1 A1 k1 hA hN hd K hK => by
   have e22 : f 22 = .bool true := hd 22 (by simp)
   simp only [e22] at hK ⊢
   go_simp
   exact hK _ _ br rfl,?_⟩
  intro f w1 A1 k1 hA1 hfr hap hF
  have e26 : f 26 = .bool true := hF.2
  clear hF hap hfr hA1
  simp only [Act.put,nrA,nrB,nrC]
  rw [e26]
  clear e26
  generalize f 1 = z1
  generalize f 2 = z2
  generalize f 3 = z3
  generalize f 4 = z4
  generalize f 5 = z5
  generalize f 6 = z6
  generalize f 7 = z7
  generalize f 8 = z8
  generalize f 9 = z9
  generalize f 10 = z10
  generalize f 11 = z11
  generalize f 12 = z12
  generalize f 13 = z13
  generalize f 17 = z17
  generalize f 18 = z18
  generalize f 21 = z21
  generalize f 22 = z22
  have hb1 : Below W.heap.size W w1 := br.drew.trans k1
  obtain ⟨_,_,_,_,y0,y1,y2,y3,y4,y5,y6,y7,y8,f0,f1,f2,f3,f4,f5,f6,f7,f8⟩ := HV.out.2.2.2 w1 hb1
  have HB := Lib.hid (HV.out.2.1.trans (hb1.mono HV.out.2.1.size))
  clear qa0 qa1 qa2 qa3 qa4 qa5 qa6 qa7 qa8 qb0 qb1 qb2 qb3 qb4 qb5 qb6 qb7 qb8 qc0 qc1 qc2 qc3 qc4 qc5 qc6 qc7 qc8 qd0 qd1 qd2 qd3 qd4 qd5 qd6 qd7 hb1 k1 hsz hsa hsb hsc hsd
  go_wp2_with fail
  refine bodyPost_ret (v := .tuple #[zP,.int .i64 2]) (by unfold zP; simp [results,Tryz.results10,go_sem,y0,y1,y2,y3,y4,y5,y6,y7,y8]) rfl ⟨rfl,?_⟩
  exact set_9 HB.out (by omega)
set_option maxRecDepth 100000 in
set_option maxHeartbeats 6400000 in
theorem nc_case3 (a0 a1 a2 a3 a4 a5 a6 a7 a8 b0 b1 b2 b3 b4 b5 b6 b7 b8 c0 c1 c2 c3 c4 c5 c6 c7 c8 d0 d1 d2 d3 d4 d5 d6 d7 : Value) (H0 : ∀ w,Calls Tryz.prog 21 #[.agg #[a0,a1,a2,a3,a4,a5,a6,a7,a8]] w fun e w' => e = .returned (.bool true) ∧ Below w.heap.size w w') (H1 : ∀ w,Calls Tryz.prog 21 #[.agg #[b0,b1,b2,b3,b4,b5,b6,b7,b8]] w fun e w' => e = .returned (.bool true) ∧ Below w.heap.size w w') (H2 : ∀ w,Calls Tryz.prog 21 #[.agg #[c0,c1,c2,c3,c4,c5,c6,c7,c8]] w fun e w' => e = .returned (.bool true) ∧ Below w.heap.size w w') (H3 : ∀ w,Calls Tryz.prog 22 #[.agg #[d0,d1,d2,d3,d4,d5,d6,d7]] w fun e w' => e = .returned (.bool false) ∧ Below w.heap.size w w') (w : World) : Calls Tryz.prog 10 #[.agg #[a0,a1,a2,a3,a4,a5,a6,a7,a8],.agg #[b0,b1,b2,b3,b4,b5,b6,b7,b8],.agg #[c0,c1,c2,c3,c4,c5,c6,c7,c8],.agg #[d0,d1,d2,d3,d4,d5,d6,d7]] w fun e w' => e = .returned (.tuple #[zP,.int .i64 2]) ∧ Below w.heap.size w w' := by
 obtain ⟨W,HV⟩ := ncbox w a0 a1 a2 a3 a4 a5 a6 a7 a8 b0 b1 b2 b3 b4 b5 b6 b7 b8 c0 c1 c2 c3 c4 c5 c6 c7 c8 d0 d1 d2 d3 d4 d5 d6 d7
 obtain ⟨⟨qa0,qa1,qa2,qa3,qa4,qa5,qa6,qa7,qa8,_⟩,⟨qb0,qb1,qb2,qb3,qb4,qb5,qb6,qb7,qb8,_⟩,⟨qc0,qc1,qc2,qc3,qc4,qc5,qc6,qc7,qc8,_⟩,⟨qd0,qd1,qd2,qd3,qd4,qd5,qd6,qd7,_⟩,_⟩ := HV.out.2.2.2 W br
 have hsz := HV.out.2.2.1
 have hsa : w.heap.size < W.heap.size := by omega
 have hsb : w.heap.size + 1 < W.heap.size := by omega
 have hsc : w.heap.size + 2 < W.heap.size := by omega
 have hsd : w.heap.size + 3 < W.heap.size := by omega
 go_enter Tryz.func10,Tryz.ntmps10
 go_wp2_with fail
 try simp only [Nat.add_assoc,Nat.reduceAdd]
 rw [← HV.out.1]
 refine wp_region_own [(.lit,[]),(.val,[]),(.val,[1]),(.val,[2]),(.valg,[3]),(.valg,[3,4]),(.valg,[3,5]),(.val,[3,6]),(.val,[7]),(.valg,[8]),(.valg,[8,9]),(.valg,[8,10]),(.val,[8,11]),(.val,[12]),(.valg,[13]),(.valg,[13,14]),(.valg,[13,15]),(.val,[13,16]),(.val,[17]),(.skip,[18]),(.skip,[18]),(.val,[18]),(.val,[21]),(.skip,[22]),(.skip,[22]),(.skip,[22]),(.val,[22])]
  (pickF [(1,fun v _ _ => v = .bool true),(2,fun v _ _ => v = .bool false),(3,fun v _ _ => v = .bool false),(4,fun v _ _ => v = .agg #[b0,b1,b2,b3,b4,b5,b6,b7,b8]),(5,fun v _ _ => v = .bool true),(6,fun v _ _ => v = .bool false),(7,fun v _ _ => v = .bool false),(8,fun v _ _ => v = .bool false),(9,fun v _ _ => v = .agg #[c0,c1,c2,c3,c4,c5,c6,c7,c8]),(10,fun v _ _ => v = .bool true),(11,fun v _ _ => v = .bool false),(12,fun v _ _ => v = .bool false),(13,fun v _ _ => v = .bool false),(14,fun v _ _ => v = .agg #[d0,d1,d2,d3,d4,d5,d6,d7]),(15,fun v _ _ => v = .bool false),(16,fun v _ _ => v = .bool true),(17,fun v _ _ => v = .bool true),(18,fun v _ _ => v = .bool true),(21,fun v _ _ => v = .bool true),(22,fun v _ _ => v = .bool true),(26,fun v _ _ => v = .bool true)]) (by kernel_rfl) ?_ ?_ (by simp) (by simp) (by kernel_rfl)
 ·exact keeps_pick (by
   intro p hp
   simp only [List.mem_cons,List.not_mem_nil,or_false] at hp
   rcases hp with rfl | rfl | rfl | rfl | rfl | rfl | rfl | rfl | rfl | rfl | rfl | rfl | rfl | rfl | rfl | rfl | rfl | rfl | rfl | rfl | rfl <;> exact keeps_pure _)
 ·refine ⟨_,fun f w1 k1 => by (have xa0 := ct k1 hsa qa0; have xa1 := ct k1 hsa qa1; have xa2 := ct k1 hsa qa2; have xa3 := ct k1 hsa qa3; have xa4 := ct k1 hsa qa4; have xa5 := ct k1 hsa qa5; have xa6 := ct k1 hsa qa6; have xa7 := ct k1 hsa qa7; have xa8 := ct k1 hsa qa8; go_simp; rfl),?_⟩
  simp only [Act.put,nrA,nrB,nrC,Nat.reduceAdd]
  refine ⟨fun f w1 A1 k1 hA hN hd K hK => by
   go_simp
   refine (H0 w1).mono ?_
   rintro e w' ⟨rfl,hb⟩
   exact hK _ _ hb rfl,?_⟩
  simp only [Act.put,nrA,nrB,nrC,Nat.reduceAdd]
  refine ⟨fun f w1 A1 k1 hA hN hd K hK => by
   have e1 : f 1 = .bool true := hd 1 (by simp)
   simp only [e1] at hK ⊢
   go_simp
   exact hK _ _ br rfl,?_⟩
  simp only [Act.put,nrA,nrB,nrC,Nat.reduceAdd]
  refine ⟨fun f w1 A1 k1 hA hN hd K hK => by
   have e2 : f 2 = .bool false := hd 2 (by simp)
   simp only [e2] at hK ⊢
   go_simp
   exact hK _ _ br rfl,?_⟩
  simp only [Act.put,nrA,nrB,nrC,Nat.reduceAdd]
  refine ⟨fun f _ w1 A1 k1 hd => by (have e : f 3 = .bool false := hd 3 (by simp); simp only [e]; rfl),fun f w1 A1 k1 hA hN hd K hK => by
   have e3 : f 3 = .bool false := hd 3 (by simp)
   simp only [e3] at hK ⊢
   have xb0 := ct k1 hsb qb0
   have xb1 := ct k1 hsb qb1
   have xb2 := ct k1 hsb qb2
   have xb3 := ct k1 hsb qb3
   have xb4 := ct k1 hsb qb4
   have xb5 := ct k1 hsb qb5
   have xb6 := ct k1 hsb qb6
   have xb7 := ct k1 hsb qb7
   have xb8 := ct k1 hsb qb8
   go_simp
   exact hK _ _ br rfl,?_⟩
  simp only [Act.put,nrA,nrB,nrC,Nat.reduceAdd]
  refine ⟨fun f _ w1 A1 k1 hd => by (have e : f 3 = .bool false := hd 3 (by simp); simp only [e]; rfl),fun f w1 A1 k1 hA hN hd K hK => by
   have e3 : f 3 = .bool false := hd 3 (by simp)
   have e4 : f 4 = .agg #[b0,b1,b2,b3,b4,b5,b6,b7,b8] := hd 4 (by simp)
   simp only [e3,e4] at hK ⊢
   go_simp
   refine (H1 w1).mono ?_
   rintro e w' ⟨rfl,hb⟩
   exact hK _ _ hb rfl,?_⟩
  simp only [Act.put,nrA,nrB,nrC,Nat.reduceAdd]
  refine ⟨fun f _ w1 A1 k1 hd => by (have e : f 3 = .bool false := hd 3 (by simp); simp only [e]; rfl),fun f w1 A1 k1 hA hN hd K hK => by
   have e3 : f 3 = .bool false := hd 3 (by simp)
   have e5 : f 5 = .bool true := hd 5 (by simp)
   simp only [e3,e5] at hK ⊢
   go_simp
   exact hK _ _ br rfl,?_⟩
  simp only [Act.put,nrA,nrB,nrC,Nat.reduceAdd]
  refine ⟨fun f w1 A1 k1 hA hN hd K hK => by
   have e3 : f 3 = .bool false := hd 3 (by simp)
   have e6 : f 6 = .bool false := hd 6 (by simp)
   simp only [e3,e6] at hK ⊢
   go_simp
   exact hK _ _ br rfl,?_⟩
  simp only [Act.put,nrA,nrB,nrC,Nat.reduceAdd]
  refine ⟨fun f w1 A1 k1 hA hN hd K hK => by
   have e7 : f 7 = .bool false := hd 7 (by simp)
   simp only [e7] at hK ⊢
   go_simp
   exact hK _ _ br rfl,?_⟩
  simp only [Act.put,nrA,nrB,nrC,Nat.reduceAdd]
  refine ⟨fun f _ w1 A1 k1 hd => by (have e : f 8 = .bool false := hd 8 (by simp); simp only [e]; rfl),fun f w1 A1 k1 hA hN hd K hK => by
   have e8 : f 8 = .bool false := hd 8 (by simp)
   simp only [e8] at hK ⊢
   have xc0 := ct k1 hsc qc0
   have xc1 := ct k1 hsc qc1
   have xc2 := ct k1 hsc qc2
   have xc3 := ct k1 hsc qc3
   have xc4 := ct k1 hsc qc4
   have xc5 := ct k1 hsc qc5
   have xc6 := ct k1 hsc qc6
   have xc7 := ct k1 hsc qc7
   have xc8 := ct k1 hsc qc8
   go_simp
   exact hK _ _ br rfl,?_⟩
  simp only [Act.put,nrA,nrB,nrC,Nat.reduceAdd]
  refine ⟨fun f _ w1 A1 k1 hd => by (have e : f 8 = .bool false := hd 8 (by simp); simp only [e]; rfl),fun f w1 A1 k1 hA hN hd K hK => by
   have e8 : f 8 = .bool false := hd 8 (by simp)
   have e9 : f 9 = .agg #[c0,c1,c2,c3,c4,c5,c6,c7,c8] := hd 9 (by simp)
   simp only [e8,e9] at hK ⊢
   go_simp
   refine (H2 w1).mono ?_
   rintro e w' ⟨rfl,hb⟩
   exact hK _ _ hb rfl,?_⟩
  simp only [Act.put,nrA,nrB,nrC,Nat.reduceAdd]
  refine ⟨fun f _ w1 A1 k1 hd => by (have e : f 8 = .bool false := hd 8 (by simp); simp only [e]; rfl),fun f w1 A1 k1 hA hN hd K hK => by
   have e8 : f 8 = .bool false := hd 8 (by simp)
   have e10 : f 10 = .bool true := hd 10 (by simp)
   simp only [e8,e10] at hK ⊢
   go_simp
   exact hK _ _ br rfl,?_⟩
  simp only [Act.put,nrA,nrB,nrC,Nat.reduceAdd]
  refine ⟨fun f w1 A1 k1 hA hN hd K hK => by
   have e8 : f 8 = .bool false := hd 8 (by simp)
   have e11 : f 11 = .bool false := hd 11 (by simp)
   simp only [e8,e11] at hK ⊢
   go_simp
   exact hK _ _ br rfl,?_⟩
  simp only [Act.put,nrA,nrB,nrC,Nat.reduceAdd]
  refine ⟨fun f w1 A1 k1 hA hN hd K hK => by
   have e12 : f 12 = .bool false := hd 12 (by simp)
   simp only [e12] at hK ⊢
   go_simp
   exact hK _ _ br rfl,?_⟩
  simp only [Act.put,nrA,nrB,nrC,Nat.reduceAdd]
  refine ⟨fun f _ w1 A1 k1 hd => by (have e : f 13 = .bool false := hd 13 (by simp); simp only [e]; rfl),fun f w1 A1 k1 hA hN hd K hK => by
   have e13 : f 13 = .bool false := hd 13 (by simp)
   simp only [e13] at hK ⊢
   have xd0 := ct k1 hsd qd0
   have xd1 := ct k1 hsd qd1
   have xd2 := ct k1 hsd qd2
   have xd3 := ct k1 hsd qd3
   have xd4 := ct k1 hsd qd4
   have xd5 := ct k1 hsd qd5
   have xd6 := ct k1 hsd qd6
   have xd7 := ct k1 hsd qd7
   go_simp
   exact hK _ _ br rfl,?_⟩
  simp only [Act.put,nrA,nrB,nrC,Nat.reduceAdd]
  refine ⟨fun f _ w1 A1 k1 hd => by (have e : f 13 = .bool false := hd 13 (by simp); simp only [e]; rfl),fun f w1 A1 k1 hA hN hd K hK => by
   have e13 : f 13 = .bool false := hd 13 (by simp)
   have e14 : f 14 = .agg #[d0,d1,d2,d3,d4,d5,d6,d7] := hd 14 (by simp)
   simp only [e13,e14] at hK ⊢
   go_simp
   refine (H3 w1).mono ?_
   rintro e w' ⟨rfl,hb⟩
   exact hK _ _ hb rfl,?_⟩
  simp only [Act.put,nrA,nrB,nrC,Nat.reduceAdd]
  refine ⟨fun f _ w1 A1 k1 hd => by (have e : f 13 = .bool false := hd 13 (by simp); simp only [e]; rfl),fun f w1 A1 k1 hA hN hd K hK => by
   have e13 : f 13 = .bool false := hd 13 (by simp)
   have e15 : f 15 = .bool false := hd 15 (by simp)
   simp only [e13,e15] at hK ⊢
   go_simp
   exact hK _ _ br rfl,?_⟩
  simp only [Act.put,nrA,nrB,nrC,Nat.reduceAdd]
  refine ⟨fun f w1 A1 k1 hA hN hd K hK => by
   have e13 : f 13 = .bool false := hd 13 (by simp)
   have e16 : f 16 = .bool true := hd 16 (by simp)
   simp only [e13,e16] at hK ⊢
   go_simp
   exact hK _ _ br rfl,?_⟩
  simp only [Act.put,nrA,nrB,nrC,Nat.reduceAdd]
  refine ⟨fun f w1 A1 k1 hA hN hd K hK => by
   have e17 : f 17 = .bool true := hd 17 (by simp)
   simp only [e17] at hK ⊢
   go_simp
   exact hK _ _ br rfl,?_⟩
  simp only [Act.put,nrA,nrB,nrC,Nat.reduceAdd]
  refine ⟨fun f _ w1 A1 k1 hd => by (have e : f 18 = .bool true := hd 18 (by simp); simp only [e]; rfl),?_⟩
  simp only [Act.put,nrA,nrB,nrC,Nat.reduceAdd]
  refine ⟨fun f _ w1 A1 k1 hd => by (have e : f 18 = .bool true := hd 18 (by simp); simp only [e]; rfl),?_⟩
  simp only [Act.put,nrA,nrB,nrC,Nat.reduceAdd]
  refine ⟨fun f w1 A1 k1 hA hN hd K hK => by
   have e18 : f 18 = .bool true := hd 18 (by simp)
   simp only [e18] at hK ⊢
   go_simp
   exact hK _ _ br rfl,?_⟩
  simp only [Act.put,nrA,nrB,nrC,Nat.reduceAdd]
  refine ⟨fun f w1 A1 k1 hA hN hd K hK => by
   have e21 : f 21 = .bool true := hd 21 (by simp)
   simp only [e21] at hK ⊢
   go_simp
   exact hK _ _ br rfl,?_⟩
  simp only [Act.put,nrA,nrB,nrC,Nat.reduceAdd]
  refine ⟨fun f _ w1 A1 k1 hd => by (have e : f 22 = .bool true := hd 22 (by simp); simp only [e]; rfl),?_⟩
  simp only [Act.put,nrA,nrB,nrC,Nat.reduceAdd]
  refine ⟨fun f _ w1 A1 k1 hd => by (have e : f 22 = .bool true := hd 22 (by simp); simp only [e]; rfl),?_⟩
  simp only [Act.put,nrA,nrB,nrC,Nat.reduceAdd]
  refine ⟨fun f _ w1 A1 k1 hd => by (have e : f 22 = .bool true := hd 22 (by simp); simp only [e]; rfl),?_⟩
  simp only [Act.put,nrA,nrB,nrC,Nat.reduceAdd]
  refine ⟨fun f w1 A1 k1 hA hN hd K hK => by
   have e22 : f 22 = .bool true := hd 22 (by simp)
   simp only [e22] at hK ⊢
   go_simp
   exact hK _ _ br rfl,?_⟩
  intro f w1 A1 k1 hA1 hfr hap hF
  have e26 : f 26 = .bool true := hF.2
  clear hF hap hfr hA1
  simp only [Act.put,nrA,nrB,nrC]
  rw [e26]
  clear e26
  generalize f 1 = z1
  generalize f 2 = z2
  generalize f 3 = z3
  generalize f 4 = z4
  generalize f 5 = z5
  generalize f 6 = z6
  generalize f 7 = z7
  generalize f 8 = z8
  generalize f 9 = z9
  generalize f 10 = z10
  generalize f 11 = z11
  generalize f 12 = z12
  generalize f 13 = z13
  generalize f 14 = z14
  generalize f 15 = z15
  generalize f 16 = z16
  generalize f 17 = z17
  generalize f 18 = z18
  generalize f 21 = z21
  generalize f 22 = z22
  have hb1 : Below W.heap.size W w1 := br.drew.trans k1
  obtain ⟨_,_,_,_,y0,y1,y2,y3,y4,y5,y6,y7,y8,f0,f1,f2,f3,f4,f5,f6,f7,f8⟩ := HV.out.2.2.2 w1 hb1
  have HB := Lib.hid (HV.out.2.1.trans (hb1.mono HV.out.2.1.size))
  clear qa0 qa1 qa2 qa3 qa4 qa5 qa6 qa7 qa8 qb0 qb1 qb2 qb3 qb4 qb5 qb6 qb7 qb8 qc0 qc1 qc2 qc3 qc4 qc5 qc6 qc7 qc8 qd0 qd1 qd2 qd3 qd4 qd5 qd6 qd7 hb1 k1 hsz hsa hsb hsc hsd
  go_wp2_with fail
  refine bodyPost_ret (v := .tuple #[zP,.int .i64 2]) (by unfold zP; simp [results,Tryz.results10,go_sem,y0,y1,y2,y3,y4,y5,y6,y7,y8]) rfl ⟨rfl,?_⟩
  exact set_9 HB.out (by omega)
set_option maxRecDepth 100000 in
set_option maxHeartbeats 6400000 in
theorem nc_case4 (a0 a1 a2 a3 a4 a5 a6 a7 a8 b0 b1 b2 b3 b4 b5 b6 b7 b8 c0 c1 c2 c3 c4 c5 c6 c7 c8 d0 d1 d2 d3 d4 d5 d6 d7 : Value) (H0 : ∀ w,Calls Tryz.prog 21 #[.agg #[a0,a1,a2,a3,a4,a5,a6,a7,a8]] w fun e w' => e = .returned (.bool true) ∧ Below w.heap.size w w') (H1 : ∀ w,Calls Tryz.prog 21 #[.agg #[b0,b1,b2,b3,b4,b5,b6,b7,b8]] w fun e w' => e = .returned (.bool true) ∧ Below w.heap.size w w') (H2 : ∀ w,Calls Tryz.prog 21 #[.agg #[c0,c1,c2,c3,c4,c5,c6,c7,c8]] w fun e w' => e = .returned (.bool true) ∧ Below w.heap.size w w') (H3 : ∀ w,Calls Tryz.prog 22 #[.agg #[d0,d1,d2,d3,d4,d5,d6,d7]] w fun e w' => e = .returned (.bool true) ∧ Below w.heap.size w w') (H4 : ∀ w,Calls Tryz.prog 23 #[.agg #[d0,d1,d2,d3,d4,d5,d6,d7]] w fun e w' => e = .returned (.bool true) ∧ Below w.heap.size w w') (w : World) : Calls Tryz.prog 10 #[.agg #[a0,a1,a2,a3,a4,a5,a6,a7,a8],.agg #[b0,b1,b2,b3,b4,b5,b6,b7,b8],.agg #[c0,c1,c2,c3,c4,c5,c6,c7,c8],.agg #[d0,d1,d2,d3,d4,d5,d6,d7]] w fun e w' => e = .returned (.tuple #[zP,.int .i64 2]) ∧ Below w.heap.size w w' := by
 obtain ⟨W,HV⟩ := ncbox w a0 a1 a2 a3 a4 a5 a6 a7 a8 b0 b1 b2 b3 b4 b5 b6 b7 b8 c0 c1 c2 c3 c4 c5 c6 c7 c8 d0 d1 d2 d3 d4 d5 d6 d7
 obtain ⟨⟨qa0,qa1,qa2,qa3,qa4,qa5,qa6,qa7,qa8,_⟩,⟨qb0,qb1,qb2,qb3,qb4,qb5,qb6,qb7,qb8,_⟩,⟨qc0,qc1,qc2,qc3,qc4,qc5,qc6,qc7,qc8,_⟩,⟨qd0,qd1,qd2,qd3,qd4,qd5,qd6,qd7,_⟩,_⟩ := HV.out.2.2.2 W br
 have hsz := HV.out.2.2.1
 have hsa : w.heap.size < W.heap.size := by omega
 have hsb : w.heap.size + 1 < W.heap.size := by omega
 have hsc : w.heap.size + 2 < W.heap.size := by omega
 have hsd : w.heap.size + 3 < W.heap.size := by omega
 go_enter Tryz.func10,Tryz.ntmps10
 go_wp2_with fail
 try simp only [Nat.add_assoc,Nat.reduceAdd]
 rw [← HV.out.1]
 refine wp_region_own [(.lit,[]),(.val,[]),(.val,[1]),(.val,[2]),(.valg,[3]),(.valg,[3,4]),(.valg,[3,5]),(.val,[3,6]),(.val,[7]),(.valg,[8]),(.valg,[8,9]),(.valg,[8,10]),(.val,[8,11]),(.val,[12]),(.valg,[13]),(.valg,[13,14]),(.valg,[13,15]),(.val,[13,16]),(.val,[17]),(.valg,[18]),(.valg,[18,19]),(.val,[18,20]),(.val,[21]),(.skip,[22]),(.skip,[22]),(.skip,[22]),(.val,[22])]
  (pickF [(1,fun v _ _ => v = .bool true),(2,fun v _ _ => v = .bool false),(3,fun v _ _ => v = .bool false),(4,fun v _ _ => v = .agg #[b0,b1,b2,b3,b4,b5,b6,b7,b8]),(5,fun v _ _ => v = .bool true),(6,fun v _ _ => v = .bool false),(7,fun v _ _ => v = .bool false),(8,fun v _ _ => v = .bool false),(9,fun v _ _ => v = .agg #[c0,c1,c2,c3,c4,c5,c6,c7,c8]),(10,fun v _ _ => v = .bool true),(11,fun v _ _ => v = .bool false),(12,fun v _ _ => v = .bool false),(13,fun v _ _ => v = .bool false),(14,fun v _ _ => v = .agg #[d0,d1,d2,d3,d4,d5,d6,d7]),(15,fun v _ _ => v = .bool true),(16,fun v _ _ => v = .bool false),(17,fun v _ _ => v = .bool false),(18,fun v _ _ => v = .bool false),(19,fun v _ _ => v = .agg #[d0,d1,d2,d3,d4,d5,d6,d7]),(20,fun v _ _ => v = .bool true),(21,fun v _ _ => v = .bool true),(22,fun v _ _ => v = .bool true),(26,fun v _ _ => v = .bool true)]) (by kernel_rfl) ?_ ?_ (by simp) (by simp) (by kernel_rfl)
 ·exact keeps_pick (by
   intro p hp
   simp only [List.mem_cons,List.not_mem_nil,or_false] at hp
   rcases hp with rfl | rfl | rfl | rfl | rfl | rfl | rfl | rfl | rfl | rfl | rfl | rfl | rfl | rfl | rfl | rfl | rfl | rfl | rfl | rfl | rfl | rfl | rfl <;> exact keeps_pure _)
 ·refine ⟨_,fun f w1 k1 => by (have xa0 := ct k1 hsa qa0; have xa1 := ct k1 hsa qa1; have xa2 := ct k1 hsa qa2; have xa3 := ct k1 hsa qa3; have xa4 := ct k1 hsa qa4; have xa5 := ct k1 hsa qa5; have xa6 := ct k1 hsa qa6; have xa7 := ct k1 hsa qa7; have xa8 := ct k1 hsa qa8; go_simp; rfl),?_⟩
  simp only [Act.put,nrA,nrB,nrC,Nat.reduceAdd]
  refine ⟨fun f w1 A1 k1 hA hN hd K hK => by
   go_simp
   refine (H0 w1).mono ?_
   rintro e w' ⟨rfl,hb⟩
   exact hK _ _ hb rfl,?_⟩
  simp only [Act.put,nrA,nrB,nrC,Nat.reduceAdd]
  refine ⟨fun f w1 A1 k1 hA hN hd K hK => by
   have e1 : f 1 = .bool true := hd 1 (by simp)
   simp only [e1] at hK ⊢
   go_simp
   exact hK _ _ br rfl,?_⟩
  simp only [Act.put,nrA,nrB,nrC,Nat.reduceAdd]
  refine ⟨fun f w1 A1 k1 hA hN hd K hK => by
   have e2 : f 2 = .bool false := hd 2 (by simp)
   simp only [e2] at hK ⊢
   go_simp
   exact hK _ _ br rfl,?_⟩
  simp only [Act.put,nrA,nrB,nrC,Nat.reduceAdd]
  refine ⟨fun f _ w1 A1 k1 hd => by (have e : f 3 = .bool false := hd 3 (by simp); simp only [e]; rfl),fun f w1 A1 k1 hA hN hd K hK => by
   have e3 : f 3 = .bool false := hd 3 (by simp)
   simp only [e3] at hK ⊢
   have xb0 := ct k1 hsb qb0
   have xb1 := ct k1 hsb qb1
   have xb2 := ct k1 hsb qb2
   have xb3 := ct k1 hsb qb3
   have xb4 := ct k1 hsb qb4
   have xb5 := ct k1 hsb qb5
   have xb6 := ct k1 hsb qb6
   have xb7 := ct k1 hsb qb7
   have xb8 := ct k1 hsb qb8
   go_simp
   exact hK _ _ br rfl,?_⟩
  simp only [Act.put,nrA,nrB,nrC,Nat.reduceAdd]
  refine ⟨fun f _ w1 A1 k1 hd => by (have e : f 3 = .bool false := hd 3 (by simp); simp only [e]; rfl),fun f w1 A1 k1 hA hN hd K hK => by
   have e3 : f 3 = .bool false := hd 3 (by simp)
   have e4 : f 4 = .agg #[b0,b1,b2,b3,b4,b5,b6,b7,b8] := hd 4 (by simp)
   simp only [e3,e4] at hK ⊢
   go_simp
   refine (H1 w1).mono ?_
   rintro e w' ⟨rfl,hb⟩
   exact hK _ _ hb rfl,?_⟩
  simp only [Act.put,nrA,nrB,nrC,Nat.reduceAdd]
  refine ⟨fun f _ w1 A1 k1 hd => by (have e : f 3 = .bool false := hd 3 (by simp); simp only [e]; rfl),fun f w1 A1 k1 hA hN hd K hK => by
   have e3 : f 3 = .bool false := hd 3 (by simp)
   have e5 : f 5 = .bool true := hd 5 (by simp)
   simp only [e3,e5] at hK ⊢
   go_simp
   exact hK _ _ br rfl,?_⟩
  simp only [Act.put,nrA,nrB,nrC,Nat.reduceAdd]
  refine ⟨fun f w1 A1 k1 hA hN hd K hK => by
   have e3 : f 3 = .bool false := hd 3 (by simp)
   have e6 : f 6 = .bool false := hd 6 (by simp)
   simp only [e3,e6] at hK ⊢
   go_simp
   exact hK _ _ br rfl,?_⟩
  simp only [Act.put,nrA,nrB,nrC,Nat.reduceAdd]
  refine ⟨fun f w1 A1 k1 hA hN hd K hK => by
   have e7 : f 7 = .bool false := hd 7 (by simp)
   simp only [e7] at hK ⊢
   go_simp
   exact hK _ _ br rfl,?_⟩
  simp only [Act.put,nrA,nrB,nrC,Nat.reduceAdd]
  refine ⟨fun f _ w1 A1 k1 hd => by (have e : f 8 = .bool false := hd 8 (by simp); simp only [e]; rfl),fun f w1 A1 k1 hA hN hd K hK => by
   have e8 : f 8 = .bool false := hd 8 (by simp)
   simp only [e8] at hK ⊢
   have xc0 := ct k1 hsc qc0
   have xc1 := ct k1 hsc qc1
   have xc2 := ct k1 hsc qc2
   have xc3 := ct k1 hsc qc3
   have xc4 := ct k1 hsc qc4
   have xc5 := ct k1 hsc qc5
   have xc6 := ct k1 hsc qc6
   have xc7 := ct k1 hsc qc7
   have xc8 := ct k1 hsc qc8
   go_simp
   exact hK _ _ br rfl,?_⟩
  simp only [Act.put,nrA,nrB,nrC,Nat.reduceAdd]
  refine ⟨fun f _ w1 A1 k1 hd => by (have e : f 8 = .bool false := hd 8 (by simp); simp only [e]; rfl),fun f w1 A1 k1 hA hN hd K hK => by
   have e8 : f 8 = .bool false := hd 8 (by simp)
   have e9 : f 9 = .agg #[c0,c1,c2,c3,c4,c5,c6,c7,c8] := hd 9 (by simp)
   simp only [e8,e9] at hK ⊢
   go_simp
   refine (H2 w1).mono ?_
   rintro e w' ⟨rfl,hb⟩
   exact hK _ _ hb rfl,?_⟩
  simp only [Act.put,nrA,nrB,nrC,Nat.reduceAdd]
  refine ⟨fun f _ w1 A1 k1 hd => by (have e : f 8 = .bool false := hd 8 (by simp); simp only [e]; rfl),fun f w1 A1 k1 hA hN hd K hK => by
   have e8 : f 8 = .bool false := hd 8 (by simp)
   have e10 : f 10 = .bool true := hd 10 (by simp)
   simp only [e8,e10] at hK ⊢
   go_simp
   exact hK _ _ br rfl,?_⟩
  simp only [Act.put,nrA,nrB,nrC,Nat.reduceAdd]
  refine ⟨fun f w1 A1 k1 hA hN hd K hK => by
   have e8 : f 8 = .bool false := hd 8 (by simp)
   have e11 : f 11 = .bool false := hd 11 (by simp)
   simp only [e8,e11] at hK ⊢
   go_simp
   exact hK _ _ br rfl,?_⟩
  simp only [Act.put,nrA,nrB,nrC,Nat.reduceAdd]
  refine ⟨fun f w1 A1 k1 hA hN hd K hK => by
   have e12 : f 12 = .bool false := hd 12 (by simp)
   simp only [e12] at hK ⊢
   go_simp
   exact hK _ _ br rfl,?_⟩
  simp only [Act.put,nrA,nrB,nrC,Nat.reduceAdd]
  refine ⟨fun f _ w1 A1 k1 hd => by (have e : f 13 = .bool false := hd 13 (by simp); simp only [e]; rfl),fun f w1 A1 k1 hA hN hd K hK => by
   have e13 : f 13 = .bool false := hd 13 (by simp)
   simp only [e13] at hK ⊢
   have xd0 := ct k1 hsd qd0
   have xd1 := ct k1 hsd qd1
   have xd2 := ct k1 hsd qd2
   have xd3 := ct k1 hsd qd3
   have xd4 := ct k1 hsd qd4
   have xd5 := ct k1 hsd qd5
   have xd6 := ct k1 hsd qd6
   have xd7 := ct k1 hsd qd7
   go_simp
   exact hK _ _ br rfl,?_⟩
  simp only [Act.put,nrA,nrB,nrC,Nat.reduceAdd]
  refine ⟨fun f _ w1 A1 k1 hd => by (have e : f 13 = .bool false := hd 13 (by simp); simp only [e]; rfl),fun f w1 A1 k1 hA hN hd K hK => by
   have e13 : f 13 = .bool false := hd 13 (by simp)
   have e14 : f 14 = .agg #[d0,d1,d2,d3,d4,d5,d6,d7] := hd 14 (by simp)
   simp only [e13,e14] at hK ⊢
   go_simp
   refine (H3 w1).mono ?_
   rintro e w' ⟨rfl,hb⟩
   exact hK _ _ hb rfl,?_⟩
  simp only [Act.put,nrA,nrB,nrC,Nat.reduceAdd]
  refine ⟨fun f _ w1 A1 k1 hd => by (have e : f 13 = .bool false := hd 13 (by simp); simp only [e]; rfl),fun f w1 A1 k1 hA hN hd K hK => by
   have e13 : f 13 = .bool false := hd 13 (by simp)
   have e15 : f 15 = .bool true := hd 15 (by simp)
   simp only [e13,e15] at hK ⊢
   go_simp
   exact hK _ _ br rfl,?_⟩
  simp only [Act.put,nrA,nrB,nrC,Nat.reduceAdd]
  refine ⟨fun f w1 A1 k1 hA hN hd K hK => by
   have e13 : f 13 = .bool false := hd 13 (by simp)
   have e16 : f 16 = .bool false := hd 16 (by simp)
   simp only [e13,e16] at hK ⊢
   go_simp
   exact hK _ _ br rfl,?_⟩
  simp only [Act.put,nrA,nrB,nrC,Nat.reduceAdd]
  refine ⟨fun f w1 A1 k1 hA hN hd K hK => by
   have e17 : f 17 = .bool false := hd 17 (by simp)
   simp only [e17] at hK ⊢
   go_simp
   exact hK _ _ br rfl,?_⟩
  simp only [Act.put,nrA,nrB,nrC,Nat.reduceAdd]
  refine ⟨fun f _ w1 A1 k1 hd => by (have e : f 18 = .bool false := hd 18 (by simp); simp only [e]; rfl),fun f w1 A1 k1 hA hN hd K hK => by
   have e18 : f 18 = .bool false := hd 18 (by simp)
   simp only [e18] at hK ⊢
   have xd0 := ct k1 hsd qd0
   have xd1 := ct k1 hsd qd1
   have xd2 := ct k1 hsd qd2
   have xd3 := ct k1 hsd qd3
   have xd4 := ct k1 hsd qd4
   have xd5 := ct k1 hsd qd5
   have xd6 := ct k1 hsd qd6
   have xd7 := ct k1 hsd qd7
   go_simp
   exact hK _ _ br rfl,?_⟩
  simp only [Act.put,nrA,nrB,nrC,Nat.reduceAdd]
  refine ⟨fun f _ w1 A1 k1 hd => by (have e : f 18 = .bool false := hd 18 (by simp); simp only [e]; rfl),fun f w1 A1 k1 hA hN hd K hK => by
   have e18 : f 18 = .bool false := hd 18 (by simp)
   have e19 : f 19 = .agg #[d0,d1,d2,d3,d4,d5,d6,d7] := hd 19 (by simp)
   simp only [e18,e19] at hK ⊢
   go_simp
   refine (H4 w1).mono ?_
   rintro e w' ⟨rfl,hb⟩
   exact hK _ _ hb rfl,?_⟩
  simp only [Act.put,nrA,nrB,nrC,Nat.reduceAdd]
  refine ⟨fun f w1 A1 k1 hA hN hd K hK => by
   have e18 : f 18 = .bool false := hd 18 (by simp)
   have e20 : f 20 = .bool true := hd 20 (by simp)
   simp only [e18,e20] at hK ⊢
   go_simp
   exact hK _ _ br rfl,?_⟩
  simp only [Act.put,nrA,nrB,nrC,Nat.reduceAdd]
  refine ⟨fun f w1 A1 k1 hA hN hd K hK => by
   have e21 : f 21 = .bool true := hd 21 (by simp)
   simp only [e21] at hK ⊢
   go_simp
   exact hK _ _ br rfl,?_⟩
  simp only [Act.put,nrA,nrB,nrC,Nat.reduceAdd]
  refine ⟨fun f _ w1 A1 k1 hd => by (have e : f 22 = .bool true := hd 22 (by simp); simp only [e]; rfl),?_⟩
  simp only [Act.put,nrA,nrB,nrC,Nat.reduceAdd]
  refine ⟨fun f _ w1 A1 k1 hd => by (have e : f 22 = .bool true := hd 22 (by simp); simp only [e]; rfl),?_⟩
  simp only [Act.put,nrA,nrB,nrC,Nat.reduceAdd]
  refine ⟨fun f _ w1 A1 k1 hd => by (have e : f 22 = .bool true := hd 22 (by simp); simp only [e]; rfl),?_⟩
  simp only [Act.put,nrA,nrB,nrC,Nat.reduceAdd]
  refine ⟨fun f w1 A1 k1 hA hN hd K hK => by
   have e22 : f 22 = .bool true := hd 22 (by simp)
   simp only [e22] at hK ⊢
   go_simp
   exact hK _ _ br rfl,?_⟩
  intro f w1 A1 k1 hA1 hfr hap hF
  have e26 : f 26 = .bool true := hF.2
  clear hF hap hfr hA1
  simp only [Act.put,nrA,nrB,nrC]
  rw [e26]
  clear e26
  generalize f 1 = z1
  generalize f 2 = z2
  generalize f 3 = z3
  generalize f 4 = z4
  generalize f 5 = z5
  generalize f 6 = z6
  generalize f 7 = z7
  generalize f 8 = z8
  generalize f 9 = z9
  generalize f 10 = z10
  generalize f 11 = z11
  generalize f 12 = z12
  generalize f 13 = z13
  generalize f 14 = z14
  generalize f 15 = z15
  generalize f 16 = z16
  generalize f 17 = z17
  generalize f 18 = z18
  generalize f 19 = z19
  generalize f 20 = z20
  generalize f 21 = z21
  generalize f 22 = z22
  have hb1 : Below W.heap.size W w1 := br.drew.trans k1
  obtain ⟨_,_,_,_,y0,y1,y2,y3,y4,y5,y6,y7,y8,f0,f1,f2,f3,f4,f5,f6,f7,f8⟩ := HV.out.2.2.2 w1 hb1
  have HB := Lib.hid (HV.out.2.1.trans (hb1.mono HV.out.2.1.size))
  clear qa0 qa1 qa2 qa3 qa4 qa5 qa6 qa7 qa8 qb0 qb1 qb2 qb3 qb4 qb5 qb6 qb7 qb8 qc0 qc1 qc2 qc3 qc4 qc5 qc6 qc7 qc8 qd0 qd1 qd2 qd3 qd4 qd5 qd6 qd7 hb1 k1 hsz hsa hsb hsc hsd
  go_wp2_with fail
  refine bodyPost_ret (v := .tuple #[zP,.int .i64 2]) (by unfold zP; simp [results,Tryz.results10,go_sem,y0,y1,y2,y3,y4,y5,y6,y7,y8]) rfl ⟨rfl,?_⟩
  exact set_9 HB.out (by omega)
set_option maxRecDepth 100000 in
set_option maxHeartbeats 6400000 in
theorem nc_case5 (a0 a1 a2 a3 a4 a5 a6 a7 a8 b0 b1 b2 b3 b4 b5 b6 b7 b8 c0 c1 c2 c3 c4 c5 c6 c7 c8 d0 d1 d2 d3 d4 d5 d6 d7 e0 e1 e2 e3 e4 e5 e6 e7 : Value) (H0 : ∀ w,Calls Tryz.prog 21 #[.agg #[a0,a1,a2,a3,a4,a5,a6,a7,a8]] w fun e w' => e = .returned (.bool true) ∧ Below w.heap.size w w') (H1 : ∀ w,Calls Tryz.prog 21 #[.agg #[b0,b1,b2,b3,b4,b5,b6,b7,b8]] w fun e w' => e = .returned (.bool true) ∧ Below w.heap.size w w') (H2 : ∀ w,Calls Tryz.prog 21 #[.agg #[c0,c1,c2,c3,c4,c5,c6,c7,c8]] w fun e w' => e = .returned (.bool true) ∧ Below w.heap.size w w') (H3 : ∀ w,Calls Tryz.prog 22 #[.agg #[d0,d1,d2,d3,d4,d5,d6,d7]] w fun e w' => e = .returned (.bool true) ∧ Below w.heap.size w w') (H4 : ∀ w,Calls Tryz.prog 23 #[.agg #[d0,d1,d2,d3,d4,d5,d6,d7]] w fun e w' => e = .returned (.bool false) ∧ Below w.heap.size w w') (HI : ∀ w,Calls Tryz.prog 14 #[.int .i64 1,.int .i64 0] w fun e w' => e = .returned (.agg #[e0,e1,e2,e3,e4,e5,e6,e7]) ∧ Below w.heap.size w w') (H5 : ∀ w,(binOp .eql 27 (.agg #[d0,d1,d2,d3,d4,d5,d6,d7]) (.agg #[e0,e1,e2,e3,e4,e5,e6,e7])).run Tryz.prog w = .ok (.bool true) w) (w : World) : Calls Tryz.prog 10 #[.agg #[a0,a1,a2,a3,a4,a5,a6,a7,a8],.agg #[b0,b1,b2,b3,b4,b5,b6,b7,b8],.agg #[c0,c1,c2,c3,c4,c5,c6,c7,c8],.agg #[d0,d1,d2,d3,d4,d5,d6,d7]] w fun e w' => e = .returned (.tuple #[zP,.int .i64 2]) ∧ Below w.heap.size w w' := by
 obtain ⟨W,HV⟩ := ncbox w a0 a1 a2 a3 a4 a5 a6 a7 a8 b0 b1 b2 b3 b4 b5 b6 b7 b8 c0 c1 c2 c3 c4 c5 c6 c7 c8 d0 d1 d2 d3 d4 d5 d6 d7
 obtain ⟨⟨qa0,qa1,qa2,qa3,qa4,qa5,qa6,qa7,qa8,_⟩,⟨qb0,qb1,qb2,qb3,qb4,qb5,qb6,qb7,qb8,_⟩,⟨qc0,qc1,qc2,qc3,qc4,qc5,qc6,qc7,qc8,_⟩,⟨qd0,qd1,qd2,qd3,qd4,qd5,qd6,qd7,_⟩,_⟩ := HV.out.2.2.2 W br
 have hsz := HV.out.2.2.1
 have hsa : w.heap.size < W.heap.size := by omega
 have hsb : w.heap.size + 1 < W.heap.size := by omega
 have hsc : w.heap.size + 2 < W.heap.size := by omega
 have hsd : w.heap.size + 3 < W.heap.size := by omega
 go_enter Tryz.func10,Tryz.ntmps10
 go_wp2_with fail
 try simp only [Nat.add_assoc,Nat.reduceAdd]
 rw [← HV.out.1]
 refine wp_region_own [(.lit,[]),(.val,[]),(.val,[1]),(.val,[2]),(.valg,[3]),(.valg,[3,4]),(.valg,[3,5]),(.val,[3,6]),(.val,[7]),(.valg,[8]),(.valg,[8,9]),(.valg,[8,10]),(.val,[8,11]),(.val,[12]),(.valg,[13]),(.valg,[13,14]),(.valg,[13,15]),(.val,[13,16]),(.val,[17]),(.valg,[18]),(.valg,[18,19]),(.val,[18,20]),(.val,[21]),(.valg,[22]),(.valg,[22]),(.valg,[22,23,24]),(.val,[22,25])]
  (pickF [(1,fun v _ _ => v = .bool true),(2,fun v _ _ => v = .bool false),(3,fun v _ _ => v = .bool false),(4,fun v _ _ => v = .agg #[b0,b1,b2,b3,b4,b5,b6,b7,b8]),(5,fun v _ _ => v = .bool true),(6,fun v _ _ => v = .bool false),(7,fun v _ _ => v = .bool false),(8,fun v _ _ => v = .bool false),(9,fun v _ _ => v = .agg #[c0,c1,c2,c3,c4,c5,c6,c7,c8]),(10,fun v _ _ => v = .bool true),(11,fun v _ _ => v = .bool false),(12,fun v _ _ => v = .bool false),(13,fun v _ _ => v = .bool false),(14,fun v _ _ => v = .agg #[d0,d1,d2,d3,d4,d5,d6,d7]),(15,fun v _ _ => v = .bool true),(16,fun v _ _ => v = .bool false),(17,fun v _ _ => v = .bool false),(18,fun v _ _ => v = .bool false),(19,fun v _ _ => v = .agg #[d0,d1,d2,d3,d4,d5,d6,d7]),(20,fun v _ _ => v = .bool false),(21,fun v _ _ => v = .bool false),(22,fun v _ _ => v = .bool false),(23,fun v _ _ => v = .agg #[d0,d1,d2,d3,d4,d5,d6,d7]),(24,fun v _ _ => v = .agg #[e0,e1,e2,e3,e4,e5,e6,e7]),(25,fun v _ _ => v = .bool true),(26,fun v _ _ => v = .bool true)]) (by kernel_rfl) ?_ ?_ (by simp) (by simp) (by kernel_rfl)
 ·exact keeps_pick (by
   intro p hp
   simp only [List.mem_cons,List.not_mem_nil,or_false] at hp
   rcases hp with rfl | rfl | rfl | rfl | rfl | rfl | rfl | rfl | rfl | rfl | rfl | rfl | rfl | rfl | rfl | rfl | rfl | rfl | rfl | rfl | rfl | rfl | rfl | rfl | rfl | rfl <;> exact keeps_pure _)
 ·refine ⟨_,fun f w1 k1 => by (have xa0 := ct k1 hsa qa0; have xa1 := ct k1 hsa qa1; have xa2 := ct k1 hsa qa2; have xa3 := ct k1 hsa qa3; have xa4 := ct k1 hsa qa4; have xa5 := ct k1 hsa qa5; have xa6 := ct k1 hsa qa6; have xa7 := ct k1 hsa qa7; have xa8 := ct k1 hsa qa8; go_simp; rfl),?_⟩
  simp only [Act.put,nrA,nrB,nrC,Nat.reduceAdd]
  refine ⟨fun f w1 A1 k1 hA hN hd K hK => by
   go_simp
   refine (H0 w1).mono ?_
   rintro e w' ⟨rfl,hb⟩
   exact hK _ _ hb rfl,?_⟩
  simp only [Act.put,nrA,nrB,nrC,Nat.reduceAdd]
  refine ⟨fun f w1 A1 k1 hA hN hd K hK => by
   have e1 : f 1 = .bool true := hd 1 (by simp)
   simp only [e1] at hK ⊢
   go_simp
   exact hK _ _ br rfl,?_⟩
  simp only [Act.put,nrA,nrB,nrC,Nat.reduceAdd]
  refine ⟨fun f w1 A1 k1 hA hN hd K hK => by
   have e2 : f 2 = .bool false := hd 2 (by simp)
   simp only [e2] at hK ⊢
   go_simp
   exact hK _ _ br rfl,?_⟩
  simp only [Act.put,nrA,nrB,nrC,Nat.reduceAdd]
  refine ⟨fun f _ w1 A1 k1 hd => by (have e : f 3 = .bool false := hd 3 (by simp); simp only [e]; rfl),fun f w1 A1 k1 hA hN hd K hK => by
   have e3 : f 3 = .bool false := hd 3 (by simp)
   simp only [e3] at hK ⊢
   have xb0 := ct k1 hsb qb0
   have xb1 := ct k1 hsb qb1
   have xb2 := ct k1 hsb qb2
   have xb3 := ct k1 hsb qb3
   have xb4 := ct k1 hsb qb4
   have xb5 := ct k1 hsb qb5
   have xb6 := ct k1 hsb qb6
   have xb7 := ct k1 hsb qb7
   have xb8 := ct k1 hsb qb8
   go_simp
   exact hK _ _ br rfl,?_⟩
  simp only [Act.put,nrA,nrB,nrC,Nat.reduceAdd]
  refine ⟨fun f _ w1 A1 k1 hd => by (have e : f 3 = .bool false := hd 3 (by simp); simp only [e]; rfl),fun f w1 A1 k1 hA hN hd K hK => by
   have e3 : f 3 = .bool false := hd 3 (by simp)
   have e4 : f 4 = .agg #[b0,b1,b2,b3,b4,b5,b6,b7,b8] := hd 4 (by simp)
   simp only [e3,e4] at hK ⊢
   go_simp
   refine (H1 w1).mono ?_
   rintro e w' ⟨rfl,hb⟩
   exact hK _ _ hb rfl,?_⟩
  simp only [Act.put,nrA,nrB,nrC,Nat.reduceAdd]
  refine ⟨fun f _ w1 A1 k1 hd => by (have e : f 3 = .bool false := hd 3 (by simp); simp only [e]; rfl),fun f w1 A1 k1 hA hN hd K hK => by
   have e3 : f 3 = .bool false := hd 3 (by simp)
   have e5 : f 5 = .bool true := hd 5 (by simp)
   simp only [e3,e5] at hK ⊢
   go_simp
   exact hK _ _ br rfl,?_⟩
  simp only [Act.put,nrA,nrB,nrC,Nat.reduceAdd]
  refine ⟨fun f w1 A1 k1 hA hN hd K hK => by
   have e3 : f 3 = .bool false := hd 3 (by simp)
   have e6 : f 6 = .bool false := hd 6 (by simp)
   simp only [e3,e6] at hK ⊢
   go_simp
   exact hK _ _ br rfl,?_⟩
  simp only [Act.put,nrA,nrB,nrC,Nat.reduceAdd]
  refine ⟨fun f w1 A1 k1 hA hN hd K hK => by
   have e7 : f 7 = .bool false := hd 7 (by simp)
   simp only [e7] at hK ⊢
   go_simp
   exact hK _ _ br rfl,?_⟩
  simp only [Act.put,nrA,nrB,nrC,Nat.reduceAdd]
  refine ⟨fun f _ w1 A1 k1 hd => by (have e : f 8 = .bool false := hd 8 (by simp); simp only [e]; rfl),fun f w1 A1 k1 hA hN hd K hK => by
   have e8 : f 8 = .bool false := hd 8 (by simp)
   simp only [e8] at hK ⊢
   have xc0 := ct k1 hsc qc0
   have xc1 := ct k1 hsc qc1
   have xc2 := ct k1 hsc qc2
   have xc3 := ct k1 hsc qc3
   have xc4 := ct k1 hsc qc4
   have xc5 := ct k1 hsc qc5
   have xc6 := ct k1 hsc qc6
   have xc7 := ct k1 hsc qc7
   have xc8 := ct k1 hsc qc8
   go_simp
   exact hK _ _ br rfl,?_⟩
  simp only [Act.put,nrA,nrB,nrC,Nat.reduceAdd]
  refine ⟨fun f _ w1 A1 k1 hd => by (have e : f 8 = .bool false := hd 8 (by simp); simp only [e]; rfl),fun f w1 A1 k1 hA hN hd K hK => by
   have e8 : f 8 = .bool false := hd 8 (by simp)
   have e9 : f 9 = .agg #[c0,c1,c2,c3,c4,c5,c6,c7,c8] := hd 9 (by simp)
   simp only [e8,e9] at hK ⊢
   go_simp
   refine (H2 w1).mono ?_
   rintro e w' ⟨rfl,hb⟩
   exact hK _ _ hb rfl,?_⟩
  simp only [Act.put,nrA,nrB,nrC,Nat.reduceAdd]
  refine ⟨fun f _ w1 A1 k1 hd => by (have e : f 8 = .bool false := hd 8 (by simp); simp only [e]; rfl),fun f w1 A1 k1 hA hN hd K hK => by
   have e8 : f 8 = .bool false := hd 8 (by simp)
   have e10 : f 10 = .bool true := hd 10 (by simp)
   simp only [e8,e10] at hK ⊢
   go_simp
   exact hK _ _ br rfl,?_⟩
  simp only [Act.put,nrA,nrB,nrC,Nat.reduceAdd]
  refine ⟨fun f w1 A1 k1 hA hN hd K hK => by
   have e8 : f 8 = .bool false := hd 8 (by simp)
   have e11 : f 11 = .bool false := hd 11 (by simp)
   simp only [e8,e11] at hK ⊢
   go_simp
   exact hK _ _ br rfl,?_⟩
  simp only [Act.put,nrA,nrB,nrC,Nat.reduceAdd]
  refine ⟨fun f w1 A1 k1 hA hN hd K hK => by
   have e12 : f 12 = .bool false := hd 12 (by simp)
   simp only [e12] at hK ⊢
   go_simp
   exact hK _ _ br rfl,?_⟩
  simp only [Act.put,nrA,nrB,nrC,Nat.reduceAdd]
  refine ⟨fun f _ w1 A1 k1 hd => by (have e : f 13 = .bool false := hd 13 (by simp); simp only [e]; rfl),fun f w1 A1 k1 hA hN hd K hK => by
   have e13 : f 13 = .bool false := hd 13 (by simp)
   simp only [e13] at hK ⊢
   have xd0 := ct k1 hsd qd0
   have xd1 := ct k1 hsd qd1
   have xd2 := ct k1 hsd qd2
   have xd3 := ct k1 hsd qd3
   have xd4 := ct k1 hsd qd4
   have xd5 := ct k1 hsd qd5
   have xd6 := ct k1 hsd qd6
   have xd7 := ct k1 hsd qd7
   go_simp
   exact hK _ _ br rfl,?_⟩
  simp only [Act.put,nrA,nrB,nrC,Nat.reduceAdd]
  refine ⟨fun f _ w1 A1 k1 hd => by (have e : f 13 = .bool false := hd 13 (by simp); simp only [e]; rfl),fun f w1 A1 k1 hA hN hd K hK => by
   have e13 : f 13 = .bool false := hd 13 (by simp)
   have e14 : f 14 = .agg #[d0,d1,d2,d3,d4,d5,d6,d7] := hd 14 (by simp)
   simp only [e13,e14] at hK ⊢
   go_simp
   refine (H3 w1).mono ?_
   rintro e w' ⟨rfl,hb⟩
   exact hK _ _ hb rfl,?_⟩
  simp only [Act.put,nrA,nrB,nrC,Nat.reduceAdd]
  refine ⟨fun f _ w1 A1 k1 hd => by (have e : f 13 = .bool false := hd 13 (by simp); simp only [e]; rfl),fun f w1 A1 k1 hA hN hd K hK => by
   have e13 : f 13 = .bool false := hd 13 (by simp)
   have e15 : f 15 = .bool true := hd 15 (by simp)
   simp only [e13,e15] at hK ⊢
   go_simp
   exact hK _ _ br rfl,?_⟩
  simp only [Act.put,nrA,nrB,nrC,Nat.reduceAdd]
  refine ⟨fun f w1 A1 k1 hA hN hd K hK => by
   have e13 : f 13 = .bool false := hd 13 (by simp)
   have e16 : f 16 = .bool false := hd 16 (by simp)
   simp only [e13,e16] at hK ⊢
   go_simp
   exact hK _ _ br rfl,?_⟩
  simp only [Act.put,nrA,nrB,nrC,Nat.reduceAdd]
  refine ⟨fun f w1 A1 k1 hA hN hd K hK => by
   have e17 : f 17 = .bool false := hd 17 (by simp)
   simp only [e17] at hK ⊢
   go_simp
   exact hK _ _ br rfl,?_⟩
  simp only [Act.put,nrA,nrB,nrC,Nat.reduceAdd]
  refine ⟨fun f _ w1 A1 k1 hd => by (have e : f 18 = .bool false := hd 18 (by simp); simp only [e]; rfl),fun f w1 A1 k1 hA hN hd K hK => by
   have e18 : f 18 = .bool false := hd 18 (by simp)
   simp only [e18] at hK ⊢
   have xd0 := ct k1 hsd qd0
   have xd1 := ct k1 hsd qd1
   have xd2 := ct k1 hsd qd2
   have xd3 := ct k1 hsd qd3
   have xd4 := ct k1 hsd qd4
   have xd5 := ct k1 hsd qd5
   have xd6 := ct k1 hsd qd6
   have xd7 := ct k1 hsd qd7
   go_simp
   exact hK _ _ br rfl,?_⟩
  simp only [Act.put,nrA,nrB,nrC,Nat.reduceAdd]
  refine ⟨fun f _ w1 A1 k1 hd => by (have e : f 18 = .bool false := hd 18 (by simp); simp only [e]; rfl),fun f w1 A1 k1 hA hN hd K hK => by
   have e18 : f 18 = .bool false := hd 18 (by simp)
   have e19 : f 19 = .agg #[d0,d1,d2,d3,d4,d5,d6,d7] := hd 19 (by simp)
   simp only [e18,e19] at hK ⊢
   go_simp
   refine (H4 w1).mono ?_
   rintro e w' ⟨rfl,hb⟩
   exact hK _ _ hb rfl,?_⟩
  simp only [Act.put,nrA,nrB,nrC,Nat.reduceAdd]
  refine ⟨fun f w1 A1 k1 hA hN hd K hK => by
   have e18 : f 18 = .bool false := hd 18 (by simp)
   have e20 : f 20 = .bool false := hd 20 (by simp)
   simp only [e18,e20] at hK ⊢
   go_simp
   exact hK _ _ br rfl,?_⟩
  simp only [Act.put,nrA,nrB,nrC,Nat.reduceAdd]
  refine ⟨fun f w1 A1 k1 hA hN hd K hK => by
   have e21 : f 21 = .bool false := hd 21 (by simp)
   simp only [e21] at hK ⊢
   go_simp
   exact hK _ _ br rfl,?_⟩
  simp only [Act.put,nrA,nrB,nrC,Nat.reduceAdd]
  refine ⟨fun f _ w1 A1 k1 hd => by (have e : f 22 = .bool false := hd 22 (by simp); simp only [e]; rfl),fun f w1 A1 k1 hA hN hd K hK => by
   have e22 : f 22 = .bool false := hd 22 (by simp)
   simp only [e22] at hK ⊢
   have xd0 := ct k1 hsd qd0
   have xd1 := ct k1 hsd qd1
   have xd2 := ct k1 hsd qd2
   have xd3 := ct k1 hsd qd3
   have xd4 := ct k1 hsd qd4
   have xd5 := ct k1 hsd qd5
   have xd6 := ct k1 hsd qd6
   have xd7 := ct k1 hsd qd7
   go_simp
   exact hK _ _ br rfl,?_⟩
  simp only [Act.put,nrA,nrB,nrC,Nat.reduceAdd]
  refine ⟨fun f _ w1 A1 k1 hd => by (have e : f 22 = .bool false := hd 22 (by simp); simp only [e]; rfl),fun f w1 A1 k1 hA hN hd K hK => by
   have e22 : f 22 = .bool false := hd 22 (by simp)
   simp only [e22] at hK ⊢
   go_simp
   refine (HI w1).mono ?_
   rintro e w' ⟨rfl,hb⟩
   exact hK _ _ hb rfl,?_⟩
  simp only [Act.put,nrA,nrB,nrC,Nat.reduceAdd]
  refine ⟨fun f _ w1 A1 k1 hd => by (have e : f 22 = .bool false := hd 22 (by simp); simp only [e]; rfl),fun f w1 A1 k1 hA hN hd K hK => by
   have e22 : f 22 = .bool false := hd 22 (by simp)
   have e23 : f 23 = .agg #[d0,d1,d2,d3,d4,d5,d6,d7] := hd 23 (by simp)
   have e24 : f 24 = .agg #[e0,e1,e2,e3,e4,e5,e6,e7] := hd 24 (by simp)
   simp only [e22,e23,e24] at hK ⊢
   have he := H5
   go_simp
   exact hK _ _ br rfl,?_⟩
  simp only [Act.put,nrA,nrB,nrC,Nat.reduceAdd]
  refine ⟨fun f w1 A1 k1 hA hN hd K hK => by
   have e22 : f 22 = .bool false := hd 22 (by simp)
   have e25 : f 25 = .bool true := hd 25 (by simp)
   simp only [e22,e25] at hK ⊢
   go_simp
   exact hK _ _ br rfl,?_⟩
  intro f w1 A1 k1 hA1 hfr hap hF
  have e26 : f 26 = .bool true := hF.2
  clear hF hap hfr hA1
  simp only [Act.put,nrA,nrB,nrC]
  rw [e26]
  clear e26
  generalize f 1 = z1
  generalize f 2 = z2
  generalize f 3 = z3
  generalize f 4 = z4
  generalize f 5 = z5
  generalize f 6 = z6
  generalize f 7 = z7
  generalize f 8 = z8
  generalize f 9 = z9
  generalize f 10 = z10
  generalize f 11 = z11
  generalize f 12 = z12
  generalize f 13 = z13
  generalize f 14 = z14
  generalize f 15 = z15
  generalize f 16 = z16
  generalize f 17 = z17
  generalize f 18 = z18
  generalize f 19 = z19
  generalize f 20 = z20
  generalize f 21 = z21
  generalize f 22 = z22
  generalize f 23 = z23
  generalize f 24 = z24
  generalize f 25 = z25
  have hb1 : Below W.heap.size W w1 := br.drew.trans k1
  obtain ⟨_,_,_,_,y0,y1,y2,y3,y4,y5,y6,y7,y8,f0,f1,f2,f3,f4,f5,f6,f7,f8⟩ := HV.out.2.2.2 w1 hb1
  have HB := Lib.hid (HV.out.2.1.trans (hb1.mono HV.out.2.1.size))
  clear qa0 qa1 qa2 qa3 qa4 qa5 qa6 qa7 qa8 qb0 qb1 qb2 qb3 qb4 qb5 qb6 qb7 qb8 qc0 qc1 qc2 qc3 qc4 qc5 qc6 qc7 qc8 qd0 qd1 qd2 qd3 qd4 qd5 qd6 qd7 hb1 k1 hsz hsa hsb hsc hsd
  go_wp2_with fail
  refine bodyPost_ret (v := .tuple #[zP,.int .i64 2]) (by unfold zP; simp [results,Tryz.results10,go_sem,y0,y1,y2,y3,y4,y5,y6,y7,y8]) rfl ⟨rfl,?_⟩
  exact set_9 HB.out (by omega)
set_option maxRecDepth 100000 in
set_option maxHeartbeats 6400000 in
theorem nc_case6 (a0 a1 a2 a3 a4 a5 a6 a7 a8 b0 b1 b2 b3 b4 b5 b6 b7 b8 c0 c1 c2 c3 c4 c5 c6 c7 c8 d0 d1 d2 d3 d4 d5 d6 d7 e0 e1 e2 e3 e4 e5 e6 e7 : Value) (H0 : ∀ w,Calls Tryz.prog 21 #[.agg #[a0,a1,a2,a3,a4,a5,a6,a7,a8]] w fun e w' => e = .returned (.bool true) ∧ Below w.heap.size w w') (H1 : ∀ w,Calls Tryz.prog 21 #[.agg #[b0,b1,b2,b3,b4,b5,b6,b7,b8]] w fun e w' => e = .returned (.bool true) ∧ Below w.heap.size w w') (H2 : ∀ w,Calls Tryz.prog 21 #[.agg #[c0,c1,c2,c3,c4,c5,c6,c7,c8]] w fun e w' => e = .returned (.bool true) ∧ Below w.heap.size w w') (H3 : ∀ w,Calls Tryz.prog 22 #[.agg #[d0,d1,d2,d3,d4,d5,d6,d7]] w fun e w' => e = .returned (.bool true) ∧ Below w.heap.size w w') (H4 : ∀ w,Calls Tryz.prog 23 #[.agg #[d0,d1,d2,d3,d4,d5,d6,d7]] w fun e w' => e = .returned (.bool false) ∧ Below w.heap.size w w') (HI : ∀ w,Calls Tryz.prog 14 #[.int .i64 1,.int .i64 0] w fun e w' => e = .returned (.agg #[e0,e1,e2,e3,e4,e5,e6,e7]) ∧ Below w.heap.size w w') (H5 : ∀ w,(binOp .eql 27 (.agg #[d0,d1,d2,d3,d4,d5,d6,d7]) (.agg #[e0,e1,e2,e3,e4,e5,e6,e7])).run Tryz.prog w = .ok (.bool false) w) (c : Int) (o0 o1 o3 o5 o7 : Bool) (o2 o4 o6 o8 : ByteArray) (HC : ∀ w,Calls Tryz.prog 24 #[.agg #[a0,a1,a2,a3,a4,a5,a6,a7,a8],.agg #[b0,b1,b2,b3,b4,b5,b6,b7,b8],.agg #[c0,c1,c2,c3,c4,c5,c6,c7,c8],.agg #[d0,d1,d2,d3,d4,d5,d6,d7],.agg #[e0,e1,e2,e3,e4,e5,e6,e7]] w fun e w' => e = .returned (.tuple #[.agg #[.bool o0,.bool o1,.string o2,.bool o3,.string o4,.bool o5,.string o6,.bool o7,.string o8],.int .i64 c]) ∧ Below w.heap.size w w') (w : World) : Calls Tryz.prog 10 #[.agg #[a0,a1,a2,a3,a4,a5,a6,a7,a8],.agg #[b0,b1,b2,b3,b4,b5,b6,b7,b8],.agg #[c0,c1,c2,c3,c4,c5,c6,c7,c8],.agg #[d0,d1,d2,d3,d4,d5,d6,d7]] w fun e w' => e = .returned (.tuple #[.agg #[.bool o0,.bool o1,.string o2,.bool o3,.string o4,.bool o5,.string o6,.bool o7,.string o8],.int .i64 c]) ∧ Below w.heap.size w w' := by
 obtain ⟨W,HV⟩ := ncbox w a0 a1 a2 a3 a4 a5 a6 a7 a8 b0 b1 b2 b3 b4 b5 b6 b7 b8 c0 c1 c2 c3 c4 c5 c6 c7 c8 d0 d1 d2 d3 d4 d5 d6 d7
 obtain ⟨⟨qa0,qa1,qa2,qa3,qa4,qa5,qa6,qa7,qa8,_⟩,⟨qb0,qb1,qb2,qb3,qb4,qb5,qb6,qb7,qb8,_⟩,⟨qc0,qc1,qc2,qc3,qc4,qc5,qc6,qc7,qc8,_⟩,⟨qd0,qd1,qd2,qd3,qd4,qd5,qd6,qd7,_⟩,_⟩ := HV.out.2.2.2 W br
 have hsz := HV.out.2.2.1
 have hsa : w.heap.size < W.heap.size := by omega
 have hsb : w.heap.size + 1 < W.heap.size := by omega
 have hsc : w.heap.size + 2 < W.heap.size := by omega
 have hsd : w.heap.size + 3 < W.heap.size := by omega
 go_enter Tryz.func10,Tryz.ntmps10
 go_wp2_with fail
 try simp only [Nat.add_assoc,Nat.reduceAdd]
 rw [← HV.out.1]
 refine wp_region_own [(.lit,[]),(.val,[]),(.val,[1]),(.val,[2]),(.valg,[3]),(.valg,[3,4]),(.valg,[3,5]),(.val,[3,6]),(.val,[7]),(.valg,[8]),(.valg,[8,9]),(.valg,[8,10]),(.val,[8,11]),(.val,[12]),(.valg,[13]),(.valg,[13,14]),(.valg,[13,15]),(.val,[13,16]),(.val,[17]),(.valg,[18]),(.valg,[18,19]),(.val,[18,20]),(.val,[21]),(.valg,[22]),(.valg,[22]),(.valg,[22,23,24]),(.val,[22,25])]
  (pickF [(1,fun v _ _ => v = .bool true),(2,fun v _ _ => v = .bool false),(3,fun v _ _ => v = .bool false),(4,fun v _ _ => v = .agg #[b0,b1,b2,b3,b4,b5,b6,b7,b8]),(5,fun v _ _ => v = .bool true),(6,fun v _ _ => v = .bool false),(7,fun v _ _ => v = .bool false),(8,fun v _ _ => v = .bool false),(9,fun v _ _ => v = .agg #[c0,c1,c2,c3,c4,c5,c6,c7,c8]),(10,fun v _ _ => v = .bool true),(11,fun v _ _ => v = .bool false),(12,fun v _ _ => v = .bool false),(13,fun v _ _ => v = .bool false),(14,fun v _ _ => v = .agg #[d0,d1,d2,d3,d4,d5,d6,d7]),(15,fun v _ _ => v = .bool true),(16,fun v _ _ => v = .bool false),(17,fun v _ _ => v = .bool false),(18,fun v _ _ => v = .bool false),(19,fun v _ _ => v = .agg #[d0,d1,d2,d3,d4,d5,d6,d7]),(20,fun v _ _ => v = .bool false),(21,fun v _ _ => v = .bool false),(22,fun v _ _ => v = .bool false),(23,fun v _ _ => v = .agg #[d0,d1,d2,d3,d4,d5,d6,d7]),(24,fun v _ _ => v = .agg #[e0,e1,e2,e3,e4,e5,e6,e7]),(25,fun v _ _ => v = .bool false),(26,fun v _ _ => v = .bool false)]) (by kernel_rfl) ?_ ?_ (by simp) (by simp) (by kernel_rfl)
 ·exact keeps_pick (by
   intro p hp
   simp only [List.mem_cons,List.not_mem_nil,or_false] at hp
   rcases hp with rfl | rfl | rfl | rfl | rfl | rfl | rfl | rfl | rfl | rfl | rfl | rfl | rfl | rfl | rfl | rfl | rfl | rfl | rfl | rfl | rfl | rfl | rfl | rfl | rfl | rfl <;> exact keeps_pure _)
 ·refine ⟨_,fun f w1 k1 => by (have xa0 := ct k1 hsa qa0; have xa1 := ct k1 hsa qa1; have xa2 := ct k1 hsa qa2; have xa3 := ct k1 hsa qa3; have xa4 := ct k1 hsa qa4; have xa5 := ct k1 hsa qa5; have xa6 := ct k1 hsa qa6; have xa7 := ct k1 hsa qa7; have xa8 := ct k1 hsa qa8; go_simp; rfl),?_⟩
  simp only [Act.put,nrA,nrB,nrC,Nat.reduceAdd]
  refine ⟨fun f w1 A1 k1 hA hN hd K hK => by
   go_simp
   refine (H0 w1).mono ?_
   rintro e w' ⟨rfl,hb⟩
   exact hK _ _ hb rfl,?_⟩
  simp only [Act.put,nrA,nrB,nrC,Nat.reduceAdd]
  refine ⟨fun f w1 A1 k1 hA hN hd K hK => by
   have e1 : f 1 = .bool true := hd 1 (by simp)
   simp only [e1] at hK ⊢
   go_simp
   exact hK _ _ br rfl,?_⟩
  simp only [Act.put,nrA,nrB,nrC,Nat.reduceAdd]
  refine ⟨fun f w1 A1 k1 hA hN hd K hK => by
   have e2 : f 2 = .bool false := hd 2 (by simp)
   simp only [e2] at hK ⊢
   go_simp
   exact hK _ _ br rfl,?_⟩
  simp only [Act.put,nrA,nrB,nrC,Nat.reduceAdd]
  refine ⟨fun f _ w1 A1 k1 hd => by (have e : f 3 = .bool false := hd 3 (by simp); simp only [e]; rfl),fun f w1 A1 k1 hA hN hd K hK => by
   have e3 : f 3 = .bool false := hd 3 (by simp)
   simp only [e3] at hK ⊢
   have xb0 := ct k1 hsb qb0
   have xb1 := ct k1 hsb qb1
   have xb2 := ct k1 hsb qb2
   have xb3 := ct k1 hsb qb3
   have xb4 := ct k1 hsb qb4
   have xb5 := ct k1 hsb qb5
   have xb6 := ct k1 hsb qb6
   have xb7 := ct k1 hsb qb7
   have xb8 := ct k1 hsb qb8
   go_simp
   exact hK _ _ br rfl,?_⟩
  simp only [Act.put,nrA,nrB,nrC,Nat.reduceAdd]
  refine ⟨fun f _ w1 A1 k1 hd => by (have e : f 3 = .bool false := hd 3 (by simp); simp only [e]; rfl),fun f w1 A1 k1 hA hN hd K hK => by
   have e3 : f 3 = .bool false := hd 3 (by simp)
   have e4 : f 4 = .agg #[b0,b1,b2,b3,b4,b5,b6,b7,b8] := hd 4 (by simp)
   simp only [e3,e4] at hK ⊢
   go_simp
   refine (H1 w1).mono ?_
   rintro e w' ⟨rfl,hb⟩
   exact hK _ _ hb rfl,?_⟩
  simp only [Act.put,nrA,nrB,nrC,Nat.reduceAdd]
  refine ⟨fun f _ w1 A1 k1 hd => by (have e : f 3 = .bool false := hd 3 (by simp); simp only [e]; rfl),fun f w1 A1 k1 hA hN hd K hK => by
   have e3 : f 3 = .bool false := hd 3 (by simp)
   have e5 : f 5 = .bool true := hd 5 (by simp)
   simp only [e3,e5] at hK ⊢
   go_simp
   exact hK _ _ br rfl,?_⟩
  simp only [Act.put,nrA,nrB,nrC,Nat.reduceAdd]
  refine ⟨fun f w1 A1 k1 hA hN hd K hK => by
   have e3 : f 3 = .bool false := hd 3 (by simp)
   have e6 : f 6 = .bool false := hd 6 (by simp)
   simp only [e3,e6] at hK ⊢
   go_simp
   exact hK _ _ br rfl,?_⟩
  simp only [Act.put,nrA,nrB,nrC,Nat.reduceAdd]
  refine ⟨fun f w1 A1 k1 hA hN hd K hK => by
   have e7 : f 7 = .bool false := hd 7 (by simp)
   simp only [e7] at hK ⊢
   go_simp
   exact hK _ _ br rfl,?_⟩
  simp only [Act.put,nrA,nrB,nrC,Nat.reduceAdd]
  refine ⟨fun f _ w1 A1 k1 hd => by (have e : f 8 = .bool false := hd 8 (by simp); simp only [e]; rfl),fun f w1 A1 k1 hA hN hd K hK => by
   have e8 : f 8 = .bool false := hd 8 (by simp)
   simp only [e8] at hK ⊢
   have xc0 := ct k1 hsc qc0
   have xc1 := ct k1 hsc qc1
   have xc2 := ct k1 hsc qc2
   have xc3 := ct k1 hsc qc3
   have xc4 := ct k1 hsc qc4
   have xc5 := ct k1 hsc qc5
   have xc6 := ct k1 hsc qc6
   have xc7 := ct k1 hsc qc7
   have xc8 := ct k1 hsc qc8
   go_simp
   exact hK _ _ br rfl,?_⟩
  simp only [Act.put,nrA,nrB,nrC,Nat.reduceAdd]
  refine ⟨fun f _ w1 A1 k1 hd => by (have e : f 8 = .bool false := hd 8 (by simp); simp only [e]; rfl),fun f w1 A1 k1 hA hN hd K hK => by
   have e8 : f 8 = .bool false := hd 8 (by simp)
   have e9 : f 9 = .agg #[c0,c1,c2,c3,c4,c5,c6,c7,c8] := hd 9 (by simp)
   simp only [e8,e9] at hK ⊢
   go_simp
   refine (H2 w1).mono ?_
   rintro e w' ⟨rfl,hb⟩
   exact hK _ _ hb rfl,?_⟩
  simp only [Act.put,nrA,nrB,nrC,Nat.reduceAdd]
  refine ⟨fun f _ w1 A1 k1 hd => by (have e : f 8 = .bool false := hd 8 (by simp); simp only [e]; rfl),fun f w1 A1 k1 hA hN hd K hK => by
   have e8 : f 8 = .bool false := hd 8 (by simp)
   have e10 : f 10 = .bool true := hd 10 (by simp)
   simp only [e8,e10] at hK ⊢
   go_simp
   exact hK _ _ br rfl,?_⟩
  simp only [Act.put,nrA,nrB,nrC,Nat.reduceAdd]
  refine ⟨fun f w1 A1 k1 hA hN hd K hK => by
   have e8 : f 8 = .bool false := hd 8 (by simp)
   have e11 : f 11 = .bool false := hd 11 (by simp)
   simp only [e8,e11] at hK ⊢
   go_simp
   exact hK _ _ br rfl,?_⟩
  simp only [Act.put,nrA,nrB,nrC,Nat.reduceAdd]
  refine ⟨fun f w1 A1 k1 hA hN hd K hK => by
   have e12 : f 12 = .bool false := hd 12 (by simp)
   simp only [e12] at hK ⊢
   go_simp
   exact hK _ _ br rfl,?_⟩
  simp only [Act.put,nrA,nrB,nrC,Nat.reduceAdd]
  refine ⟨fun f _ w1 A1 k1 hd => by (have e : f 13 = .bool false := hd 13 (by simp); simp only [e]; rfl),fun f w1 A1 k1 hA hN hd K hK => by
   have e13 : f 13 = .bool false := hd 13 (by simp)
   simp only [e13] at hK ⊢
   have xd0 := ct k1 hsd qd0
   have xd1 := ct k1 hsd qd1
   have xd2 := ct k1 hsd qd2
   have xd3 := ct k1 hsd qd3
   have xd4 := ct k1 hsd qd4
   have xd5 := ct k1 hsd qd5
   have xd6 := ct k1 hsd qd6
   have xd7 := ct k1 hsd qd7
   go_simp
   exact hK _ _ br rfl,?_⟩
  simp only [Act.put,nrA,nrB,nrC,Nat.reduceAdd]
  refine ⟨fun f _ w1 A1 k1 hd => by (have e : f 13 = .bool false := hd 13 (by simp); simp only [e]; rfl),fun f w1 A1 k1 hA hN hd K hK => by
   have e13 : f 13 = .bool false := hd 13 (by simp)
   have e14 : f 14 = .agg #[d0,d1,d2,d3,d4,d5,d6,d7] := hd 14 (by simp)
   simp only [e13,e14] at hK ⊢
   go_simp
   refine (H3 w1).mono ?_
   rintro e w' ⟨rfl,hb⟩
   exact hK _ _ hb rfl,?_⟩
  simp only [Act.put,nrA,nrB,nrC,Nat.reduceAdd]
  refine ⟨fun f _ w1 A1 k1 hd => by (have e : f 13 = .bool false := hd 13 (by simp); simp only [e]; rfl),fun f w1 A1 k1 hA hN hd K hK => by
   have e13 : f 13 = .bool false := hd 13 (by simp)
   have e15 : f 15 = .bool true := hd 15 (by simp)
   simp only [e13,e15] at hK ⊢
   go_simp
   exact hK _ _ br rfl,?_⟩
  simp only [Act.put,nrA,nrB,nrC,Nat.reduceAdd]
  refine ⟨fun f w1 A1 k1 hA hN hd K hK => by
   have e13 : f 13 = .bool false := hd 13 (by simp)
   have e16 : f 16 = .bool false := hd 16 (by simp)
   simp only [e13,e16] at hK ⊢
   go_simp
   exact hK _ _ br rfl,?_⟩
  simp only [Act.put,nrA,nrB,nrC,Nat.reduceAdd]
  refine ⟨fun f w1 A1 k1 hA hN hd K hK => by
   have e17 : f 17 = .bool false := hd 17 (by simp)
   simp only [e17] at hK ⊢
   go_simp
   exact hK _ _ br rfl,?_⟩
  simp only [Act.put,nrA,nrB,nrC,Nat.reduceAdd]
  refine ⟨fun f _ w1 A1 k1 hd => by (have e : f 18 = .bool false := hd 18 (by simp); simp only [e]; rfl),fun f w1 A1 k1 hA hN hd K hK => by
   have e18 : f 18 = .bool false := hd 18 (by simp)
   simp only [e18] at hK ⊢
   have xd0 := ct k1 hsd qd0
   have xd1 := ct k1 hsd qd1
   have xd2 := ct k1 hsd qd2
   have xd3 := ct k1 hsd qd3
   have xd4 := ct k1 hsd qd4
   have xd5 := ct k1 hsd qd5
   have xd6 := ct k1 hsd qd6
   have xd7 := ct k1 hsd qd7
   go_simp
   exact hK _ _ br rfl,?_⟩
  simp only [Act.put,nrA,nrB,nrC,Nat.reduceAdd]
  refine ⟨fun f _ w1 A1 k1 hd => by (have e : f 18 = .bool false := hd 18 (by simp); simp only [e]; rfl),fun f w1 A1 k1 hA hN hd K hK => by
   have e18 : f 18 = .bool false := hd 18 (by simp)
   have e19 : f 19 = .agg #[d0,d1,d2,d3,d4,d5,d6,d7] := hd 19 (by simp)
   simp only [e18,e19] at hK ⊢
   go_simp
   refine (H4 w1).mono ?_
   rintro e w' ⟨rfl,hb⟩
   exact hK _ _ hb rfl,?_⟩
  simp only [Act.put,nrA,nrB,nrC,Nat.reduceAdd]
  refine ⟨fun f w1 A1 k1 hA hN hd K hK => by
   have e18 : f 18 = .bool false := hd 18 (by simp)
   have e20 : f 20 = .bool false := hd 20 (by simp)
   simp only [e18,e20] at hK ⊢
   go_simp
   exact hK _ _ br rfl,?_⟩
  simp only [Act.put,nrA,nrB,nrC,Nat.reduceAdd]
  refine ⟨fun f w1 A1 k1 hA hN hd K hK => by
   have e21 : f 21 = .bool false := hd 21 (by simp)
   simp only [e21] at hK ⊢
   go_simp
   exact hK _ _ br rfl,?_⟩
  simp only [Act.put,nrA,nrB,nrC,Nat.reduceAdd]
  refine ⟨fun f _ w1 A1 k1 hd => by (have e : f 22 = .bool false := hd 22 (by simp); simp only [e]; rfl),fun f w1 A1 k1 hA hN hd K hK => by
   have e22 : f 22 = .bool false := hd 22 (by simp)
   simp only [e22] at hK ⊢
   have xd0 := ct k1 hsd qd0
   have xd1 := ct k1 hsd qd1
   have xd2 := ct k1 hsd qd2
   have xd3 := ct k1 hsd qd3
   have xd4 := ct k1 hsd qd4
   have xd5 := ct k1 hsd qd5
   have xd6 := ct k1 hsd qd6
   have xd7 := ct k1 hsd qd7
   go_simp
   exact hK _ _ br rfl,?_⟩
  simp only [Act.put,nrA,nrB,nrC,Nat.reduceAdd]
  refine ⟨fun f _ w1 A1 k1 hd => by (have e : f 22 = .bool false := hd 22 (by simp); simp only [e]; rfl),fun f w1 A1 k1 hA hN hd K hK => by
   have e22 : f 22 = .bool false := hd 22 (by simp)
   simp only [e22] at hK ⊢
   go_simp
   refine (HI w1).mono ?_
   rintro e w' ⟨rfl,hb⟩
   exact hK _ _ hb rfl,?_⟩
  simp only [Act.put,nrA,nrB,nrC,Nat.reduceAdd]
  refine ⟨fun f _ w1 A1 k1 hd => by (have e : f 22 = .bool false := hd 22 (by simp); simp only [e]; rfl),fun f w1 A1 k1 hA hN hd K hK => by
   have e22 : f 22 = .bool false := hd 22 (by simp)
   have e23 : f 23 = .agg #[d0,d1,d2,d3,d4,d5,d6,d7] := hd 23 (by simp)
   have e24 : f 24 = .agg #[e0,e1,e2,e3,e4,e5,e6,e7] := hd 24 (by simp)
   simp only [e22,e23,e24] at hK ⊢
   have he := H5
   go_simp
   exact hK _ _ br rfl,?_⟩
  simp only [Act.put,nrA,nrB,nrC,Nat.reduceAdd]
  refine ⟨fun f w1 A1 k1 hA hN hd K hK => by
   have e22 : f 22 = .bool false := hd 22 (by simp)
   have e25 : f 25 = .bool false := hd 25 (by simp)
   simp only [e22,e25] at hK ⊢
   go_simp
   exact hK _ _ br rfl,?_⟩
  intro f w1 A1 k1 hA1 hfr hap hF
  have e26 : f 26 = .bool false := hF.2
  clear hF hap hfr hA1
  simp only [Act.put,nrA,nrB,nrC]
  rw [e26]
  clear e26
  generalize f 1 = z1
  generalize f 2 = z2
  generalize f 3 = z3
  generalize f 4 = z4
  generalize f 5 = z5
  generalize f 6 = z6
  generalize f 7 = z7
  generalize f 8 = z8
  generalize f 9 = z9
  generalize f 10 = z10
  generalize f 11 = z11
  generalize f 12 = z12
  generalize f 13 = z13
  generalize f 14 = z14
  generalize f 15 = z15
  generalize f 16 = z16
  generalize f 17 = z17
  generalize f 18 = z18
  generalize f 19 = z19
  generalize f 20 = z20
  generalize f 21 = z21
  generalize f 22 = z22
  generalize f 23 = z23
  generalize f 24 = z24
  generalize f 25 = z25
  have hb1 : Below W.heap.size W w1 := br.drew.trans k1
  have HB1 := Lib.hid hb1
  clear qa0 qa1 qa2 qa3 qa4 qa5 qa6 qa7 qa8 qb0 qb1 qb2 qb3 qb4 qb5 qb6 qb7 qb8 qc0 qc1 qc2 qc3 qc4 qc5 qc6 qc7 qc8 qd0 qd1 qd2 qd3 qd4 qd5 qd6 qd7 hb1 k1
  obtain ⟨⟨qa0,qa1,qa2,qa3,qa4,qa5,qa6,qa7,qa8,_⟩,⟨qb0,qb1,qb2,qb3,qb4,qb5,qb6,qb7,qb8,_⟩,⟨qc0,qc1,qc2,qc3,qc4,qc5,qc6,qc7,qc8,_⟩,⟨qd0,qd1,qd2,qd3,qd4,qd5,qd6,qd7,_⟩,_⟩ := HV.out.2.2.2 w1 HB1.out
  have hzz := HB1.out.size
  have hsa : w.heap.size < w1.heap.size := by omega
  have hsb : w.heap.size + 1 < w1.heap.size := by omega
  have hsc : w.heap.size + 2 < w1.heap.size := by omega
  have hsd : w.heap.size + 3 < w1.heap.size := by omega
  go_wp2_with fail
  refine wp_region_own [(.lit,[]),(.lit,[]),(.lit,[]),(.lit,[]),(.val,[]),(.val,[4]),(.val,[5]),(.val,[5])]
   (pickF [(4,fun v _ _ => v = .agg #[e0,e1,e2,e3,e4,e5,e6,e7]),(5,fun v _ _ => v = .tuple #[.agg #[.bool o0,.bool o1,.string o2,.bool o3,.string o4,.bool o5,.string o6,.bool o7,.string o8],.int .i64 c]),(6,fun v _ _ => v = .agg #[.bool o0,.bool o1,.string o2,.bool o3,.string o4,.bool o5,.string o6,.bool o7,.string o8]),(7,fun v _ _ => v = .int .i64 c)]) (by kernel_rfl) ?_ ?_ (by simp) (by simp) (by kernel_rfl)
  ·exact keeps_pick (by
    intro p hp
    simp only [List.mem_cons,List.not_mem_nil,or_false] at hp
    rcases hp with rfl | rfl | rfl | rfl <;> exact keeps_pure _)
  ·refine ⟨_,fun f w2 k1 => by (have xa0 := ct k1 hsa qa0; have xa1 := ct k1 hsa qa1; have xa2 := ct k1 hsa qa2; have xa3 := ct k1 hsa qa3; have xa4 := ct k1 hsa qa4; have xa5 := ct k1 hsa qa5; have xa6 := ct k1 hsa qa6; have xa7 := ct k1 hsa qa7; have xa8 := ct k1 hsa qa8; go_simp; rfl),?_⟩
   refine ⟨_,fun f w2 k1 => by (have xb0 := ct k1 hsb qb0; have xb1 := ct k1 hsb qb1; have xb2 := ct k1 hsb qb2; have xb3 := ct k1 hsb qb3; have xb4 := ct k1 hsb qb4; have xb5 := ct k1 hsb qb5; have xb6 := ct k1 hsb qb6; have xb7 := ct k1 hsb qb7; have xb8 := ct k1 hsb qb8; go_simp; rfl),?_⟩
   refine ⟨_,fun f w2 k1 => by (have xc0 := ct k1 hsc qc0; have xc1 := ct k1 hsc qc1; have xc2 := ct k1 hsc qc2; have xc3 := ct k1 hsc qc3; have xc4 := ct k1 hsc qc4; have xc5 := ct k1 hsc qc5; have xc6 := ct k1 hsc qc6; have xc7 := ct k1 hsc qc7; have xc8 := ct k1 hsc qc8; go_simp; rfl),?_⟩
   refine ⟨_,fun f w2 k1 => by (have xd0 := ct k1 hsd qd0; have xd1 := ct k1 hsd qd1; have xd2 := ct k1 hsd qd2; have xd3 := ct k1 hsd qd3; have xd4 := ct k1 hsd qd4; have xd5 := ct k1 hsd qd5; have xd6 := ct k1 hsd qd6; have xd7 := ct k1 hsd qd7; go_simp; rfl),?_⟩
   simp only [Act.put,nrA,nrB,nrC,Nat.reduceAdd]
   refine ⟨fun f w2 A1 k1 hA hN hd K hK => by
    go_simp
    refine (HI w2).mono ?_
    rintro e w' ⟨rfl,hb⟩
    exact hK _ _ hb rfl,?_⟩
   simp only [Act.put,nrA,nrB,nrC,Nat.reduceAdd]
   refine ⟨fun f w2 A1 k1 hA hN hd K hK => by
    have e4 : f 4 = .agg #[e0,e1,e2,e3,e4,e5,e6,e7] := hd 4 (by simp)
    simp only [e4] at hK ⊢
    go_simp
    refine (HC w2).mono ?_
    rintro e w' ⟨rfl,hb⟩
    exact hK _ _ hb rfl,?_⟩
   simp only [Act.put,nrA,nrB,nrC,Nat.reduceAdd]
   refine ⟨fun f w2 A1 k1 hA hN hd K hK => by
    have e5 : f 5 = .tuple #[.agg #[.bool o0,.bool o1,.string o2,.bool o3,.string o4,.bool o5,.string o6,.bool o7,.string o8],.int .i64 c] := hd 5 (by simp)
    simp only [e5] at hK ⊢
    go_simp
    exact hK _ _ br rfl,?_⟩
   simp only [Act.put,nrA,nrB,nrC,Nat.reduceAdd]
   refine ⟨fun f w2 A1 k1 hA hN hd K hK => by
    have e5 : f 5 = .tuple #[.agg #[.bool o0,.bool o1,.string o2,.bool o3,.string o4,.bool o5,.string o6,.bool o7,.string o8],.int .i64 c] := hd 5 (by simp)
    simp only [e5] at hK ⊢
    go_simp
    exact hK _ _ br rfl,?_⟩
   intro f w2 A1 k1 hA1 hfr hap hF
   have e6 : f 6 = .agg #[.bool o0,.bool o1,.string o2,.bool o3,.string o4,.bool o5,.string o6,.bool o7,.string o8] := hF.1.2
   have e7 : f 7 = .int .i64 c := hF.2
   clear hF hap hfr hA1
   simp only [Act.put,nrA,nrB,nrC]
   rw [e6,e7]
   clear e6 e7
   generalize f 4 = y4
   generalize f 5 = y5
   have hb2 : Below W.heap.size W w2 := HB1.out.trans ((br.drew.trans k1).mono HB1.out.size)
   obtain ⟨_,_,_,_,y0,y1,y2,y3,y4,y5,y6,y7,y8,f0,f1,f2,f3,f4,f5,f6,f7,f8⟩ := HV.out.2.2.2 w2 hb2
   have HB := Lib.hid (HV.out.2.1.trans (hb2.mono HV.out.2.1.size))
   clear qa0 qa1 qa2 qa3 qa4 qa5 qa6 qa7 qa8 qb0 qb1 qb2 qb3 qb4 qb5 qb6 qb7 qb8 qc0 qc1 qc2 qc3 qc4 qc5 qc6 qc7 qc8 qd0 qd1 qd2 qd3 qd4 qd5 qd6 qd7 hb2 k1 hsz hsa hsb hsc hsd hzz
   go_wp2_with fail
   refine bodyPost_ret (v := .tuple #[.agg #[.bool o0,.bool o1,.string o2,.bool o3,.string o4,.bool o5,.string o6,.bool o7,.string o8],.int .i64 c]) (by simp [results,Tryz.results10,go_sem,y0,y1,y2,y3,y4,y5,y6,y7,y8]) rfl ⟨rfl,?_⟩
   exact set_9 HB.out (by omega)
end Go.Proofs.YtepefgkihnjjaaaGreat
