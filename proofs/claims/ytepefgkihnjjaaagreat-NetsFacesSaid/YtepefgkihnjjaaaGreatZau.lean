/- Laws for the walk. -/
import Derived.Test.YtepefgkihnjjaaaGreatZzz
import Derived.Test.YtepefgkihnjjaaaGreatZat
set_option linter.unusedVariables false
namespace Go.Proofs.YtepefgkihnjjaaaGreat
open Go.RowKit Tr
instance (p : Pt) : Decidable (ShortP p) := by unfold ShortP; cases p <;> (try unfold ShortZ) <;> exact inferInstance
def outPt (p : Pt) : Value := if ShortP p then encP p else zP
def outPtC (p : Pt) : Int := if ShortP p then 0 else 4
theorem tdbox (w : World) (i : Bool) (p1 p2 : Option Addr) :
  ∃ W,Hid (W = (w.alloc (.cells #[.bool i,.pointer p1,.pointer p2] 68)).alloc (.cells #[.bool false,.bool false,.string ⟨#[]⟩,.bool false,.string ⟨#[]⟩,.bool false,.string ⟨#[]⟩,.bool false,.string ⟨#[]⟩] 29) ∧ Below w.heap.size w W ∧ W.heap.size = w.heap.size + 2 ∧ ∀ w1,Below W.heap.size W w1 → (w1.cell? ⟨w.heap.size,0,none⟩ = some (.bool i) ∧ w1.cell? ⟨w.heap.size,1,none⟩ = some (.pointer p1) ∧ w1.cell? ⟨w.heap.size,2,none⟩ = some (.pointer p2)) ∧
   (w1.cell? ⟨w.heap.size + 1,0,none⟩ = some (.bool false) ∧ w1.cell? ⟨w.heap.size + 1,1,none⟩ = some (.bool false) ∧ w1.cell? ⟨w.heap.size + 1,2,none⟩ = some (.string ⟨#[]⟩) ∧ w1.cell? ⟨w.heap.size + 1,3,none⟩ = some (.bool false) ∧ w1.cell? ⟨w.heap.size + 1,4,none⟩ = some (.string ⟨#[]⟩) ∧ w1.cell? ⟨w.heap.size + 1,5,none⟩ = some (.bool false) ∧ w1.cell? ⟨w.heap.size + 1,6,none⟩ = some (.string ⟨#[]⟩) ∧ w1.cell? ⟨w.heap.size + 1,7,none⟩ = some (.bool false) ∧ w1.cell? ⟨w.heap.size + 1,8,none⟩ = some (.string ⟨#[]⟩) ∧ w1.frozen? ⟨w.heap.size + 1,0,none⟩ = false ∧ w1.frozen? ⟨w.heap.size + 1,1,none⟩ = false ∧ w1.frozen? ⟨w.heap.size + 1,2,none⟩ = false ∧ w1.frozen? ⟨w.heap.size + 1,3,none⟩ = false ∧ w1.frozen? ⟨w.heap.size + 1,4,none⟩ = false ∧ w1.frozen? ⟨w.heap.size + 1,5,none⟩ = false ∧ w1.frozen? ⟨w.heap.size + 1,6,none⟩ = false ∧ w1.frozen? ⟨w.heap.size + 1,7,none⟩ = false ∧ w1.frozen? ⟨w.heap.size + 1,8,none⟩ = false)) := by
 obtain ⟨w1,hw1⟩ : ∃ w1,w1 = w.alloc (.cells #[.bool i,.pointer p1,.pointer p2] 68) := ⟨_,rfl⟩
 have hz1 : w1.heap.size = w.heap.size + 1 := by rw [hw1]; simp
 have hb1 : Below w.heap.size w w1 := by rw [hw1]; exact br.alloc (Nat.le_refl _) _
 obtain ⟨w2,hw2⟩ : ∃ w2,w2 = w1.alloc (.cells #[.bool false,.bool false,.string ⟨#[]⟩,.bool false,.string ⟨#[]⟩,.bool false,.string ⟨#[]⟩,.bool false,.string ⟨#[]⟩] 29) := ⟨_,rfl⟩
 have hz2 : w2.heap.size = w.heap.size + 2 := by rw [hw2]; simp [hz1]
 have hb2 : Below w1.heap.size w1 w2 := by rw [hw2]; exact br.alloc (Nat.le_refl _) _
 have t2 : Below w2.heap.size w2 w2 := Below.refl _ _
 have t1 : Below w1.heap.size w1 w2 := hb2.trans (t2.mono hb2.size)
 refine ⟨w2,Lib.hid ⟨by rw [hw2,hw1],hb1.trans (t1.mono hb1.size),hz2,fun w' h => ?_⟩⟩
 have e0 := (t1.trans (h.mono t1.size)).block w.heap.size (by rw [hw1]; simp)
 rw [hw1,heap_alloc_new] at e0
 have e1 := (t2.trans (h.mono t2.size)).block w1.heap.size (by rw [hw2]; simp)
 rw [hw2,heap_alloc_new] at e1
 rw [hz1] at e1
 refine ⟨?_,?_⟩ <;> simp [World.cell?,World.frozen?,e0,e1]
theorem acbox (w : World) (i j : Bool) (p1 p2 p3 p4 : Option Addr) :
  ∃ W,Hid (W = ((w.alloc (.cells #[.bool i,.pointer p1,.pointer p2] 68)).alloc (.cells #[.bool j,.pointer p3,.pointer p4] 68)).alloc (.cells #[.pointer none,.pointer none] 66) ∧ Below w.heap.size w W ∧ W.heap.size = w.heap.size + 3 ∧ ∀ w1,Below W.heap.size W w1 → (w1.cell? ⟨w.heap.size,0,none⟩ = some (.bool i) ∧ w1.cell? ⟨w.heap.size,1,none⟩ = some (.pointer p1) ∧ w1.cell? ⟨w.heap.size,2,none⟩ = some (.pointer p2)) ∧
   (w1.cell? ⟨w.heap.size + 1,0,none⟩ = some (.bool j) ∧ w1.cell? ⟨w.heap.size + 1,1,none⟩ = some (.pointer p3) ∧ w1.cell? ⟨w.heap.size + 1,2,none⟩ = some (.pointer p4)) ∧
   (w1.cell? ⟨w.heap.size + 2,0,none⟩ = some (.pointer none) ∧ w1.cell? ⟨w.heap.size + 2,1,none⟩ = some (.pointer none) ∧ w1.frozen? ⟨w.heap.size + 2,0,none⟩ = false ∧ w1.frozen? ⟨w.heap.size + 2,1,none⟩ = false ∧ w1.heap[w.heap.size + 2]? = some (.cells #[.pointer none,.pointer none] 66 (0,0)))) := by
 obtain ⟨w1,hw1⟩ : ∃ w1,w1 = w.alloc (.cells #[.bool i,.pointer p1,.pointer p2] 68) := ⟨_,rfl⟩
 have hz1 : w1.heap.size = w.heap.size + 1 := by rw [hw1]; simp
 have hb1 : Below w.heap.size w w1 := by rw [hw1]; exact br.alloc (Nat.le_refl _) _
 obtain ⟨w2,hw2⟩ : ∃ w2,w2 = w1.alloc (.cells #[.bool j,.pointer p3,.pointer p4] 68) := ⟨_,rfl⟩
 have hz2 : w2.heap.size = w.heap.size + 2 := by rw [hw2]; simp [hz1]
 have hb2 : Below w1.heap.size w1 w2 := by rw [hw2]; exact br.alloc (Nat.le_refl _) _
 obtain ⟨w3,hw3⟩ : ∃ w3,w3 = w2.alloc (.cells #[.pointer none,.pointer none] 66) := ⟨_,rfl⟩
 have hz3 : w3.heap.size = w.heap.size + 3 := by rw [hw3]; simp [hz2]
 have hb3 : Below w2.heap.size w2 w3 := by rw [hw3]; exact br.alloc (Nat.le_refl _) _
 have t3 : Below w3.heap.size w3 w3 := Below.refl _ _
 have t2 : Below w2.heap.size w2 w3 := hb3.trans (t3.mono hb3.size)
 have t1 : Below w1.heap.size w1 w3 := hb2.trans (t2.mono hb2.size)
 refine ⟨w3,Lib.hid ⟨by rw [hw3,hw2,hw1],hb1.trans (t1.mono hb1.size),hz3,fun w' h => ?_⟩⟩
 have e0 := (t1.trans (h.mono t1.size)).block w.heap.size (by rw [hw1]; simp)
 rw [hw1,heap_alloc_new] at e0
 have e1 := (t2.trans (h.mono t2.size)).block w1.heap.size (by rw [hw2]; simp)
 rw [hw2,heap_alloc_new] at e1
 rw [hz1] at e1
 have e2 := (t3.trans (h.mono t3.size)).block w2.heap.size (by rw [hw3]; simp)
 rw [hw3,heap_alloc_new] at e2
 rw [hz2] at e2
 refine ⟨?_,?_,?_⟩ <;> simp [World.cell?,World.frozen?,e0,e1,e2]
theorem set_9 {w w1 : World} {n : Nat} (h : Below w.heap.size w w1) (hn : w.heap.size ≤ n) {x0 x1 x2 x3 x4 x5 x6 x7 x8 : Value} : Below w.heap.size w (((((((((w1.setCell ⟨n,0,none⟩ x0).setCell ⟨n,1,none⟩ x1).setCell ⟨n,2,none⟩ x2).setCell ⟨n,3,none⟩ x3).setCell ⟨n,4,none⟩ x4).setCell ⟨n,5,none⟩ x5).setCell ⟨n,6,none⟩ x6).setCell ⟨n,7,none⟩ x7).setCell ⟨n,8,none⟩ x8) :=
 ((((((((h.setCell (p := ⟨n,0,none⟩) hn _).setCell (p := ⟨n,1,none⟩) hn _).setCell (p := ⟨n,2,none⟩) hn _).setCell (p := ⟨n,3,none⟩) hn _).setCell (p := ⟨n,4,none⟩) hn _).setCell (p := ⟨n,5,none⟩) hn _).setCell (p := ⟨n,6,none⟩) hn _).setCell (p := ⟨n,7,none⟩) hn _).setCell (p := ⟨n,8,none⟩) hn _
theorem outG_parts (z : QC) : ∃ b1 t1 b2 t2 b3 t3 b4 t4,outG z.re z.im = .agg #[.bool b1,.string t1,.bool b2,.string t2,.bool b3,.string t3,.bool b4,.string t4] ∧ outPt (some z) = .agg #[.bool false,.bool b1,.string t1,.bool b2,.string t2,.bool b3,.string t3,.bool b4,.string t4] ∧ outPtC (some z) = outGC z.re z.im := by
 unfold outPt outPtC outG outGC
 by_cases h : ShortF z.re ∧ ShortF z.im
 ·have h' : ShortP (some z) := h
  rw [if_pos h,if_pos h,if_pos h',if_pos h']
  exact ⟨_,_,_,_,_,_,_,_,rfl,rfl,rfl⟩
 ·have h' : ¬ ShortP (some z) := h
  rw [if_neg h,if_neg h,if_neg h',if_neg h']
  exact ⟨_,_,_,_,_,_,_,_,rfl,rfl,rfl⟩
set_option maxRecDepth 100000 in
set_option maxHeartbeats 3200000 in
theorem PlTold_any (p : Pt) (v : Value) (A : Nat → Prop) (w : World) (hv : PlF p v w A) (hl : ZL (pz p) 137438953472) :
  Calls Tryz.prog 31 #[v] w fun e w' => e = .returned (.tuple #[outPt p,.int .i64 (outPtC p)]) ∧ Below w.heap.size w w' := by
 obtain ⟨p1,p2,rfl,hz⟩ := pl_agg hv
 clear hv
 obtain ⟨i,hi⟩ : ∃ i,i = p.isNone := ⟨_,rfl⟩
 rw [← hi]
 obtain ⟨W,HV⟩ := tdbox w i p1 p2
 obtain ⟨⟨e0,e1,e2⟩,_⟩ := HV.out.2.2.2 W br
 cases p with
 | none =>
  obtain rfl : i = true := hi
  go_enter Tryz.func31,Tryz.ntmps31
  go_wp2_with fail
  refine bodyPost_ret (v := .tuple #[infP,.int .i64 0]) (by unfold infP; simp [results,Tryz.results31,go_sem]) rfl ⟨rfl,?_⟩
  exact (br.alloc (Nat.le_refl _) _).alloc (by simp) _
 | some z =>
  obtain rfl : i = false := hi
  have H1 := Lib.hid (NTold_any z.re z.im (.agg #[.pointer p1,.pointer p2]) A W (Fact.Keeps.below (NQ.keeps z) HV.out.2.1 hz) hl.1 hl.2)
  obtain ⟨b1,t1,b2,t2,b3,t3,b4,t4,eg,ep,ec⟩ := outG_parts z
  obtain ⟨kc,hkc⟩ : ∃ kc,kc = outGC z.re z.im := ⟨_,rfl⟩
  rw [eg,← hkc] at H1
  rw [← hkc] at ec
  have HE := Lib.hid (And.intro ep ec)
  clear hz hl eg ep ec hkc
  go_enter Tryz.func31,Tryz.ntmps31
  go_wp2_with fail
  rw [← HV.out.1]
  go_wp2_with fail
  refine H1.out.mono ?_
  rintro e w1 ⟨rfl,hb1⟩
  obtain ⟨_,c0,c1,c2,c3,c4,c5,c6,c7,c8,f0,f1,f2,f3,f4,f5,f6,f7,f8⟩ := HV.out.2.2.2 w1 hb1
  have hn2 : w.heap.size + 1 < w1.heap.size := by have h1 := hb1.size; have h2 := HV.out.2.2.1; omega
  have HB := Lib.hid (HV.out.2.1.trans (hb1.mono HV.out.2.1.size))
  clear hb1 H1 e0 e1 e2
  go_wp2_with fail
  refine bodyPost_ret (v := .tuple #[.agg #[.bool false,.bool b1,.string t1,.bool b2,.string t2,.bool b3,.string t3,.bool b4,.string t4],.int .i64 kc]) (by simp [results,Tryz.results31,go_sem,c0,c1,c2,c3,c4,c5,c6,c7,c8,hn2,cell_alloc_lt]) rfl ⟨by rw [HE.out.1,HE.out.2],?_⟩
  exact Below.alloc (set_9 HB.out (by omega)) (set_9 HB.out (by omega)).size _
theorem NQMul_any (x y : QC) (v v' : Value) (A : Nat → Prop) (w : World) (hv : NQ x v w A) (hv' : NQ y v' w A) (hA : Rcv A w) (k l : Nat) (hx : ZL x k) (hy : ZL y l) (hkl : k + l + (k + l) < 137438953472) :
  Calls Tryz.prog 61 #[v,v'] w fun e w' => ∃ u,e = .returned u ∧ Below w.heap.size w w' ∧ NQ (x * y) u w' A := NMul_any _ _ _ _ v v' A w hv hv' hA k l hx.1 hx.2 hy.1 hy.2 hkl
theorem NQSub_any (x y : QC) (v v' : Value) (A : Nat → Prop) (w : World) (hv : NQ x v w A) (hv' : NQ y v' w A) (hA : Rcv A w) (k l : Nat) (hx : ZL x k) (hy : ZL y l) (hkl : k + l + (k + l) < 137438953472) :
  Calls Tryz.prog 99 #[v,v'] w fun e w' => ∃ u,e = .returned u ∧ Below w.heap.size w w' ∧ NQ (x - y) u w' A := NSub_any _ _ _ _ v v' A w hv hv' hA k l hx.1 hx.2 hy.1 hy.2 hkl
set_option maxRecDepth 100000 in
set_option maxHeartbeats 3200000 in
theorem Across_any (p q : Pt) (v v' : Value) (A : Nat → Prop) (w : World) (hA : Rcv A w) (hv : PlF p v w A) (hv' : PlF q v' w A) (k : Nat) (hk : k ≤ 1000000) (hp1 : ZL (ptX p) k) (hp2 : ZL (ptY p) k) (hq1 : ZL (ptX q) k) (hq2 : ZL (ptY q) k) :
  Calls Tryz.prog 60 #[v,v'] w fun e w' => ∃ u,e = .returned u ∧ Below w.heap.size w w' ∧ NQ (ptX p * ptY q - ptY p * ptX q) u w' A := by
 have hv := new_more (PlF.keeps p) (n := w.heap.size + 2) br (by omega) hv
 have hv' := new_more (PlF.keeps q) (n := w.heap.size + 2) br (by omega) hv'
 obtain ⟨p1,p2,rfl,_⟩ := pl_agg hv
 obtain ⟨p3,p4,rfl,_⟩ := pl_agg hv'
 obtain ⟨i,hi⟩ : ∃ i,i = p.isNone := ⟨_,rfl⟩
 obtain ⟨j,hj⟩ : ∃ j,j = q.isNone := ⟨_,rfl⟩
 rw [← hi] at hv ⊢
 rw [← hj] at hv' ⊢
 obtain ⟨W,HV⟩ := acbox w i j p1 p2 p3 p4
 obtain ⟨⟨e0,e1,e2⟩,⟨d0,d1,d2⟩,_,_,_,_,g1⟩ := HV.out.2.2.2 W br
 have hR : Rcv (Mo A (w.heap.size + 2)) W := rcv_more hA HV.out.2.1 g1 (noW_num _ _ ⟨_,rfl⟩ ⟨_,rfl⟩ _)
 have hs1 : w.heap.size + 1 < W.heap.size := by have := HV.out.2.2.1; omega
 have H1 := Lib.hid (By_any p _ (Mo A (w.heap.size + 2)) W hR (FactU.done (PlF.keeps _) (Fact.Keeps.below (FactU.keeps (PlF.keeps _)) HV.out.2.1 hv)))
 have H2 := Lib.hid (fun w' (h : Below W.heap.size W w') => By_any q _ (Mo A (w.heap.size + 2)) w' (hR.below h) (FactU.done (PlF.keeps _) (Fact.Keeps.below (FactU.keeps (PlF.keeps _)) (HV.out.2.1.trans (h.mono HV.out.2.1.size)) hv')))
 have HR := Lib.hid hR
 clear hv hv' hR hA g1 hi hj
 go_enter Tryz.func60,Tryz.ntmps60
 go_wp2_with fail
 try simp only [Nat.add_assoc,Nat.reduceAdd]
 rw [← HV.out.1]
 refine H1.out.mono ?_
 rintro e w1 ⟨u1,u2,rfl,hb1,i1,i2⟩
 obtain ⟨m1,m2,rfl⟩ := nq_agg i1
 obtain ⟨m3,m4,rfl⟩ := nq_agg i2
 have HI := Lib.hid (And.intro i1 (And.intro i2 hb1))
 have d0 := (hb1.cell (p := ⟨w.heap.size + 1,0,none⟩) hs1).trans d0
 have d1 := (hb1.cell (p := ⟨w.heap.size + 1,1,none⟩) hs1).trans d1
 have d2 := (hb1.cell (p := ⟨w.heap.size + 1,2,none⟩) hs1).trans d2
 have hs1' : w.heap.size + 1 < w1.heap.size := Nat.lt_of_lt_of_le hs1 hb1.size
 have hs0' : w.heap.size < w1.heap.size := by omega
 clear i1 i2 hb1 H1 e0 e1 e2
 go_wp2_with fail
 obtain ⟨W1,hW1⟩ : ∃ W1,W1 = (w1.alloc (.cells #[.pointer m1,.pointer m2] 66)).alloc (.cells #[.pointer m3,.pointer m4] 66) := ⟨_,rfl⟩
 rw [← hW1]
 have ha1 : Below w1.heap.size w1 W1 := by rw [hW1]; exact (br.alloc (Nat.le_refl _) _).alloc (by simp) _
 have hz1 : W1.heap.size = w1.heap.size + 2 := by rw [hW1]; simp
 have k1 := fun w' (h : Below W1.heap.size W1 w') => new_two w1 (.pointer m1) (.pointer m2) 66 (w1 := w') (by
  have : Below (w1.alloc (.cells #[.pointer m1,.pointer m2] 66)).heap.size (w1.alloc (.cells #[.pointer m1,.pointer m2] 66)) W1 := by rw [hW1]; exact br.alloc (Nat.le_refl _) _
  exact this.trans (h.mono this.size))
 have k2 := fun w' (h : Below W1.heap.size W1 w') => new_two (w1.alloc (.cells #[.pointer m1,.pointer m2] 66)) (.pointer m3) (.pointer m4) 66 (w1 := w') (by rw [← hW1]; exact h)
 have hz0 : (w1.alloc (.cells #[.pointer m1,.pointer m2] 66)).heap.size = w1.heap.size + 1 := by simp
 rw [hz0] at k2
 have hbW1 := HI.out.2.2.trans (ha1.mono HI.out.2.2.size)
 have HK := Lib.hid (And.intro k1 (And.intro k2 (And.intro hz1 (And.intro ha1 hbW1))))
 clear hW1 k1 k2 hz0 hz1 ha1 d0 d1 d2
 refine (H2.out W1 hbW1).mono ?_
 rintro e w2 ⟨u3,u4,rfl,hb2,i3,i4⟩
 obtain ⟨m5,m6,rfl⟩ := nq_agg i3
 obtain ⟨m7,m8,rfl⟩ := nq_agg i4
 have HI2 := Lib.hid (And.intro i3 (And.intro i4 hb2))
 have hzz : w1.heap.size + 1 < w2.heap.size := by have h1 := hb2.size; have h2 := HK.out.2.2.1; omega
 have hzy : w1.heap.size < w2.heap.size := by omega
 clear i3 i4 hb2 H2 hbW1
 go_wp2_with fail
 obtain ⟨W2,hW2⟩ : ∃ W2,W2 = (w2.alloc (.cells #[.pointer m5,.pointer m6] 66)).alloc (.cells #[.pointer m7,.pointer m8] 66) := ⟨_,rfl⟩
 rw [← hW2]
 have ha2 : Below w2.heap.size w2 W2 := by rw [hW2]; exact (br.alloc (Nat.le_refl _) _).alloc (by simp) _
 have hz2' : W2.heap.size = w2.heap.size + 2 := by rw [hW2]; simp
 obtain ⟨c4,c5,_⟩ := new_two w2 (.pointer m5) (.pointer m6) 66 (w1 := W2) (by rw [hW2]; exact br.alloc (Nat.le_refl _) _)
 obtain ⟨c6,c7,_⟩ := new_two (w2.alloc (.cells #[.pointer m5,.pointer m6] 66)) (.pointer m7) (.pointer m8) 66 (w1 := W2) (by rw [hW2]; exact Below.refl _ _)
 have hz0' : (w2.alloc (.cells #[.pointer m5,.pointer m6] 66)).heap.size = w2.heap.size + 1 := by simp
 rw [hz0'] at c6 c7
 have hbb := HI2.out.2.2.trans (ha2.mono HI2.out.2.2.size)
 obtain ⟨c0,c1,_⟩ := HK.out.1 W2 hbb
 obtain ⟨c2,c3,_⟩ := HK.out.2.1 W2 hbb
 have hz0 : w1.heap.size < W2.heap.size := by omega
 have hz1 : w1.heap.size + 1 < W2.heap.size := by omega
 have hz2 : w2.heap.size < W2.heap.size := by omega
 have hz3 : w2.heap.size + 1 < W2.heap.size := by omega
 have hbW := HK.out.2.2.2.2.trans (hbb.mono HK.out.2.2.2.2.size)
 have px : FactU (Mo A (w.heap.size + 2)) (NQ (ptX p)) (.agg #[.pointer m1,.pointer m2]) W2 NoA := FactU.start (NQ.keeps _) (Fact.Keeps.below (NQ.keeps _) hbb (Fact.Keeps.below (NQ.keeps _) HK.out.2.2.2.1 HI.out.1))
 have py : FactU (Mo A (w.heap.size + 2)) (NQ (ptY p)) (.agg #[.pointer m3,.pointer m4]) W2 NoA := FactU.start (NQ.keeps _) (Fact.Keeps.below (NQ.keeps _) hbb (Fact.Keeps.below (NQ.keeps _) HK.out.2.2.2.1 HI.out.2.1))
 have qx : FactU (Mo A (w.heap.size + 2)) (NQ (ptX q)) (.agg #[.pointer m5,.pointer m6]) W2 NoA := FactU.start (NQ.keeps _) (Fact.Keeps.below (NQ.keeps _) ha2 HI2.out.1)
 have qy : FactU (Mo A (w.heap.size + 2)) (NQ (ptY q)) (.agg #[.pointer m7,.pointer m8]) W2 NoA := FactU.start (NQ.keeps _) (Fact.Keeps.below (NQ.keeps _) ha2 HI2.out.2.1)
 have HB := Lib.hid hbW
 have hR : Rcv (Mo A (w.heap.size + 2)) W2 := HR.out.below hbW
 clear hW2 ha2 hz2' hz0' hbb hbW hzz hzy hs0' hs1'
 refine wp_region_inv [(.lit,[]),(.lit,[]),(.val,[]),(.lit,[]),(.lit,[]),(.val,[]),(.val,[2,5])]
  (pickF [(2,FactU (Mo A (w.heap.size + 2)) (NQ (ptX p * ptY q))),(5,FactU (Mo A (w.heap.size + 2)) (NQ (ptY p * ptX q))),(6,FactU (Mo A (w.heap.size + 2)) (NQ (ptX p * ptY q - ptY p * ptX q)))]) (by kernel_rfl) ?_ ?_ (by simp) (by simp) (by kernel_rfl)
 ·exact keeps_pick (by simp only [List.mem_cons,List.not_mem_nil,or_false]; rintro p (rfl | rfl | rfl) <;> exact FactU.keeps (NQ.keeps _))
 ·repeat (refine ⟨_,fun f w1 h1 => by (have i0 := ct h1 hz0 c0; have i1 := ct h1 hz0 c1; have i2 := ct h1 hz1 c2; have i3 := ct h1 hz1 c3; have i4 := ct h1 hz2 c4; have i5 := ct h1 hz2 c5; have i6 := ct h1 hz3 c6; have i7 := ct h1 hz3 c7; go_simp; rfl),?_⟩)
  simp only [Act.put,nrA,nrB,nrC,Nat.reduceAdd]
  refine ⟨fun f w1 A1 k1 hA hN hd K hK => by
   go_simp
   refine (NQMul_any (ptX p) (ptY q) _ _ (Un (Mo A (w.heap.size + 2)) A1) w1 (later (FactU.keeps (NQ.keeps _)) px k1 hN) (later (FactU.keeps (NQ.keeps _)) qy k1 hN) (rcv_un (hR.below (br.drew.trans k1)) hA) k k hp1 hq2 (by omega)).mono ?_
   rintro e w' ⟨v,rfl,hb,hr⟩
   exact hK _ _ hb hr,?_⟩
  repeat (refine ⟨_,fun f w1 h1 => by (have i0 := ct h1 hz0 c0; have i1 := ct h1 hz0 c1; have i2 := ct h1 hz1 c2; have i3 := ct h1 hz1 c3; have i4 := ct h1 hz2 c4; have i5 := ct h1 hz2 c5; have i6 := ct h1 hz3 c6; have i7 := ct h1 hz3 c7; go_simp; rfl),?_⟩)
  simp only [Act.put,nrA,nrB,nrC,Nat.reduceAdd]
  refine ⟨fun f w1 A1 k1 hA hN hd K hK => by
   go_simp
   refine (NQMul_any (ptY p) (ptX q) _ _ (Un (Mo A (w.heap.size + 2)) A1) w1 (later (FactU.keeps (NQ.keeps _)) py k1 hN) (later (FactU.keeps (NQ.keeps _)) qx k1 hN) (rcv_un (hR.below (br.drew.trans k1)) hA) k k hp2 hq1 (by omega)).mono ?_
   rintro e w' ⟨v,rfl,hb,hr⟩
   exact hK _ _ hb hr,?_⟩
  simp only [Act.put,nrA,nrB,nrC,Nat.reduceAdd]
  refine ⟨fun f w1 A1 k1 hA hN hd K hK => by
   have i2 : NQ (ptX p * ptY q) (f 2) w1 (Un (Mo A (w.heap.size + 2)) A1) := hd 2 (by simp)
   have i5 : NQ (ptY p * ptX q) (f 5) w1 (Un (Mo A (w.heap.size + 2)) A1) := hd 5 (by simp)
   go_simp
   refine (NQSub_any _ _ _ _ (Un (Mo A (w.heap.size + 2)) A1) w1 i2 i5 (rcv_un (hR.below (br.drew.trans k1)) hA) _ _ (ZL_mul hp1 hq2) (ZL_mul hp2 hq1) (by omega)).mono ?_
   rintro e w' ⟨v,rfl,hb,hr⟩
   exact hK _ _ hb hr,?_⟩
  intro f w3 k3 hF
  have i6 : NQ (ptX p * ptY q - ptY p * ptX q) (f 6) w3 (Mo A (w.heap.size + 2)) := FactU.done (NQ.keeps _) hF.2
  clear hF
  simp only [Act.put,nrA,nrB,nrC]
  generalize f 2 = x2
  generalize f 5 = x5
  generalize f 6 = x6 at *
  obtain ⟨y1,y2,rfl,j1,j2⟩ := i6
  have hb3 : Below W.heap.size W w3 := HB.out.trans ((br.drew.trans k3).mono HB.out.size)
  obtain ⟨_,_,g0,g1,f0,f1,_⟩ := HV.out.2.2.2 w3 hb3
  have HE := Lib.hid (And.intro j1 (And.intro j2 (HV.out.2.1.trans (hb3.mono HV.out.2.1.size))))
  obtain ⟨n1,rfl⟩ := j1.shape
  obtain ⟨n2,rfl⟩ := j2.shape
  clear c0 c1 c2 c3 c4 c5 c6 c7 px py qx qy j1 j2 k3 hb3 hR
  go_wp2_with fail
  refine bodyPost_ret (v := .agg #[.pointer n1,.pointer n2]) (by simp [results,Tryz.results60,go_sem,g0,g1]) rfl ?_
  exact put_numO HE.out.2.2 HE.out.1 HE.out.2.1 (by omega)
end Go.Proofs.YtepefgkihnjjaaaGreat
