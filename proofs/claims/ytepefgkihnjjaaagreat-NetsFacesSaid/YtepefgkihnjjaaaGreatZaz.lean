/- Laws for the walk. -/
import Derived.Test.YtepefgkihnjjaaaGreatZzz
import Derived.Test.YtepefgkihnjjaaaGreatZay
set_option linter.unusedVariables false
namespace Go.Proofs.YtepefgkihnjjaaaGreat
open Go.RowKit Tr
theorem qc_zero {y : QC} (h : y.re = 0 ∧ y.im = 0) : y = ⟨0,0⟩ := by
 obtain ⟨re,im⟩ := y
 obtain ⟨h1,h2⟩ := h
 simp only at h1 h2
 rw [h1,h2]
theorem qc_norm {y : QC} (h : y ≠ ⟨0,0⟩) : y.re * y.re + y.im * y.im ≠ 0 := fun h0 => h (qc_zero (norm_zero.1 h0))
theorem dvbox (w : World) (a0 b0 a1 b1 : Option Addr) :
  ∃ W,Hid (W = ((w.alloc (.cells #[.pointer a0,.pointer b0] 66)).alloc (.cells #[.pointer a1,.pointer b1] 66)).alloc (.cells #[.pointer none,.pointer none] 66) ∧ Below w.heap.size w W ∧ W.heap.size = w.heap.size + 3 ∧ ∀ w1,Below W.heap.size W w1 → (w1.cell? ⟨w.heap.size,0,none⟩ = some (.pointer a0) ∧ w1.cell? ⟨w.heap.size,1,none⟩ = some (.pointer b0) ∧ w1.frozen? ⟨w.heap.size,0,none⟩ = false ∧ w1.frozen? ⟨w.heap.size,1,none⟩ = false) ∧
   (w1.cell? ⟨w.heap.size + 1,0,none⟩ = some (.pointer a1) ∧ w1.cell? ⟨w.heap.size + 1,1,none⟩ = some (.pointer b1) ∧ w1.frozen? ⟨w.heap.size + 1,0,none⟩ = false ∧ w1.frozen? ⟨w.heap.size + 1,1,none⟩ = false) ∧
   (w1.cell? ⟨w.heap.size + 2,0,none⟩ = some (.pointer none) ∧ w1.cell? ⟨w.heap.size + 2,1,none⟩ = some (.pointer none) ∧ w1.frozen? ⟨w.heap.size + 2,0,none⟩ = false ∧ w1.frozen? ⟨w.heap.size + 2,1,none⟩ = false ∧ w1.heap[w.heap.size + 2]? = some (.cells #[.pointer none,.pointer none] 66 (0,0)))) := by
 obtain ⟨w1,hw1⟩ : ∃ w1,w1 = w.alloc (.cells #[.pointer a0,.pointer b0] 66) := ⟨_,rfl⟩
 have hz1 : w1.heap.size = w.heap.size + 1 := by rw [hw1]; simp
 have hb1 : Below w.heap.size w w1 := by rw [hw1]; exact br.alloc (Nat.le_refl _) _
 obtain ⟨w2,hw2⟩ : ∃ w2,w2 = w1.alloc (.cells #[.pointer a1,.pointer b1] 66) := ⟨_,rfl⟩
 have hz2 : w2.heap.size = w.heap.size + 2 := by rw [hw2]; simp [hz1]
 have hb2 : Below w1.heap.size w1 w2 := by rw [hw2]; exact br.alloc (Nat.le_refl _) _
 obtain ⟨w3,hw3⟩ : ∃ w3,w3 = w2.alloc (.cells #[.pointer none,.pointer none] 66) := ⟨_,rfl⟩
 have hz3 : w3.heap.size = w.heap.size + 3 := by rw [hw3]; simp [hz2]
 have hb3 : Below w2.heap.size w2 w3 := by rw [hw3]; exact br.alloc (Nat.le_refl _) _
 have t3 : Below w3.heap.size w3 w3 := Below.refl _ _
 have t2 : Below w2.heap.size w2 w3 := hb3.trans (t3.mono hb3.size)
 have t1 : Below w1.heap.size w1 w3 := hb2.trans (t2.mono hb2.size)
 refine ⟨w3,Lib.hid ⟨by rw [hw3,hw2,hw1],hb1.trans (t1.mono hb1.size),hz3,fun w' h => ?_⟩⟩
 have e0 := (t1.trans (h.mono t1.size)).block w.heap.size (by rw [hw1]; simp)
 rw [hw1,heap_alloc_new] at e0
 have e1 := (t2.trans (h.mono t2.size)).block w1.heap.size (by rw [hw2]; simp)
 rw [hw2,heap_alloc_new] at e1
 rw [hz1] at e1
 have e2 := (t3.trans (h.mono t3.size)).block w2.heap.size (by rw [hw3]; simp)
 rw [hw3,heap_alloc_new] at e2
 rw [hz2] at e2
 refine ⟨?_,?_,?_⟩ <;> simp [World.cell?,World.frozen?,e0,e1,e2]
set_option maxRecDepth 100000 in
set_option maxHeartbeats 3200000 in
theorem Div1_ok (x y : QC) (hy0 : y ≠ ⟨0,0⟩) (v v' : Value) (A : Nat → Prop) (w : World) (hA : Rcv A w) (hv : NQ x v w A) (hv' : NQ y v' w A) (k l : Nat) (hx : ZL x k) (hy : ZL y l) (hkl : (k + l + (k + l) + 1) + (l + l + (l + l) + 1) < 137438953472) :
  Calls Tryz.prog 33 #[v,v'] w fun e w' => ∃ u,e = .returned (.tuple #[u,.int .i64 0]) ∧ Below w.heap.size w w' ∧ NQ (x / y) u w' A := by
 have hv := new_more (NQ.keeps x) (n := w.heap.size + 2) br (by omega) hv
 have hv' := new_more (NQ.keeps y) (n := w.heap.size + 2) br (by omega) hv'
 obtain ⟨a0,b0,rfl⟩ := nq_agg hv
 obtain ⟨a1,b1,rfl⟩ := nq_agg hv'
 obtain ⟨W,HV⟩ := dvbox w a0 b0 a1 b1
 obtain ⟨⟨c0,c1,_⟩,⟨c2,c3,_⟩,_,_,_,_,gz⟩ := HV.out.2.2.2 W br
 have hR : Rcv (Mo A (w.heap.size + 2)) W := rcv_more hA HV.out.2.1 gz (noW_num _ _ ⟨_,rfl⟩ ⟨_,rfl⟩ _)
 have hv1 := FactU.done (NQ.keeps x) (Fact.Keeps.below (FactU.keeps (NQ.keeps x)) HV.out.2.1 hv)
 have hv2 := FactU.done (NQ.keeps y) (Fact.Keeps.below (FactU.keeps (NQ.keeps y)) HV.out.2.1 hv')
 have H1 := Lib.hid (NZero_any y.re y.im _ _ W hv2 false (by simp only [Bool.false_eq_true,false_iff]; exact fun h => hy0 (qc_zero h)))
 have H2 := Lib.hid (fun w1 (h : Below W.heap.size W w1) => NQDiv_any x y (qc_norm hy0) _ _ (Mo A (w.heap.size + 2)) w1 (Fact.Keeps.below (NQ.keeps x) h hv1) (Fact.Keeps.below (NQ.keeps y) h hv2) (hR.below h) k l hx hy hkl)
 clear hv hv' hv1 hv2 hR hA gz
 go_enter Tryz.func33,Tryz.ntmps33
 go_wp2_with fail
 try simp only [Nat.add_assoc,Nat.reduceAdd]
 rw [← HV.out.1]
 refine H1.out.mono ?_
 rintro e w1 ⟨rfl,hb1⟩
 clear c0 c1 c2 c3
 obtain ⟨⟨c0,c1,_⟩,⟨c2,c3,_⟩,_⟩ := HV.out.2.2.2 w1 hb1
 have HB := Lib.hid hb1
 clear hb1 H1
 go_wp2_with fail
 refine (H2.out w1 HB.out).mono ?_
 rintro e w2 ⟨u,rfl,hb2,hu⟩
 obtain ⟨m1,m2,rfl⟩ := nq_agg hu
 have hbw := HB.out.trans (hb2.mono HB.out.size)
 clear c0 c1 c2 c3
 obtain ⟨_,_,g0,g1,f0,f1,_⟩ := HV.out.2.2.2 w2 hbw
 have HE := Lib.hid (And.intro hu (HV.out.2.1.trans (hbw.mono HV.out.2.1.size)))
 clear hu hb2 hbw H2
 go_wp2_with fail
 refine bodyPost_ret (v := .tuple #[.agg #[.pointer m1,.pointer m2],.int .i64 0]) (by simp [results,Tryz.results33,go_sem,g0,g1]) rfl ?_
 obtain ⟨u1,u2,e,j1,j2⟩ := HE.out.1
 cases e
 obtain ⟨u,hu,hr⟩ := put_numO HE.out.2 j1 j2 (show w.heap.size ≤ w.heap.size + 2 by omega)
 cases hu
 exact ⟨_,rfl,hr⟩
def NBlk (z : QC) : Fact := fun v w A => ∃ m a b,v = .pointer (some ⟨m,0,none⟩) ∧ ¬ A m ∧ w.heap[m]? = some (.cells #[.pointer a,.pointer b] 66 (0,0)) ∧ NQ z (.agg #[.pointer a,.pointer b]) w A
theorem NBlk.keeps (z : QC) : (NBlk z).Keeps := fun v w w' A A' hs hk ⟨m,a,b,e,hA,hz,h⟩ =>
 have hm := hk m (Array.getElem?_eq_some_iff.1 hz).1 hA
 ⟨m,a,b,e,hm.2,hm.1.trans hz,NQ.keeps z _ w w' A A' hs hk h⟩
def TupI (R : Fact) (c : Int) : Fact := fun v w A => ∃ u,v = .tuple #[u,.int .i64 c] ∧ R u w A
theorem TupI.keeps {R : Fact} (h : R.Keeps) (c : Int) : (TupI R c).Keeps := fun v w w' A A' hs hk ⟨u,e,hu⟩ => ⟨u,e,h _ _ _ _ _ hs hk hu⟩
theorem set2_block {w : World} {m : Nat} {T : TypeId} {a b x0 x1 : Value} (h : w.heap[m]? = some (.cells #[a,b] T (0,0))) : ((w.setCell ⟨m,0,none⟩ x0).setCell ⟨m,1,none⟩ x1).heap[m]? = some (.cells #[x0,x1] T (0,0)) := by
 simp [World.setCell,Array.getElem?_modify,h]
theorem set_8 {w w1 : World} {n : Nat} (h : Below w.heap.size w w1) (hn : w.heap.size ≤ n) {x0 x1 x2 x3 x4 x5 x6 x7 : Value} : Below w.heap.size w ((((((((w1.setCell ⟨n,0,none⟩ x0).setCell ⟨n,1,none⟩ x1).setCell ⟨n,2,none⟩ x2).setCell ⟨n,3,none⟩ x3).setCell ⟨n,4,none⟩ x4).setCell ⟨n,5,none⟩ x5).setCell ⟨n,6,none⟩ x6).setCell ⟨n,7,none⟩ x7) :=
 (((((((h.setCell (p := ⟨n,0,none⟩) hn _).setCell (p := ⟨n,1,none⟩) hn _).setCell (p := ⟨n,2,none⟩) hn _).setCell (p := ⟨n,3,none⟩) hn _).setCell (p := ⟨n,4,none⟩) hn _).setCell (p := ⟨n,5,none⟩) hn _).setCell (p := ⟨n,6,none⟩) hn _).setCell (p := ⟨n,7,none⟩) hn _
theorem twbox (w : World) (a0 a1 a2 a3 a4 a5 a6 a7 b0 b1 b2 b3 b4 b5 b6 b7 : Value) :
  ∃ W,Hid (W = ((w.alloc (.cells #[a0,a1,a2,a3,a4,a5,a6,a7] 27)).alloc (.cells #[b0,b1,b2,b3,b4,b5,b6,b7] 27)).alloc (.cells #[.bool false,.string ⟨#[]⟩,.bool false,.string ⟨#[]⟩,.bool false,.string ⟨#[]⟩,.bool false,.string ⟨#[]⟩] 27) ∧ Below w.heap.size w W ∧ W.heap.size = w.heap.size + 3 ∧ ∀ w1,Below W.heap.size W w1 → (w1.cell? ⟨w.heap.size,0,none⟩ = some (a0) ∧ w1.cell? ⟨w.heap.size,1,none⟩ = some (a1) ∧ w1.cell? ⟨w.heap.size,2,none⟩ = some (a2) ∧ w1.cell? ⟨w.heap.size,3,none⟩ = some (a3) ∧ w1.cell? ⟨w.heap.size,4,none⟩ = some (a4) ∧ w1.cell? ⟨w.heap.size,5,none⟩ = some (a5) ∧ w1.cell? ⟨w.heap.size,6,none⟩ = some (a6) ∧ w1.cell? ⟨w.heap.size,7,none⟩ = some (a7) ∧ w1.frozen? ⟨w.heap.size,0,none⟩ = false ∧ w1.frozen? ⟨w.heap.size,1,none⟩ = false ∧ w1.frozen? ⟨w.heap.size,2,none⟩ = false ∧ w1.frozen? ⟨w.heap.size,3,none⟩ = false ∧ w1.frozen? ⟨w.heap.size,4,none⟩ = false ∧ w1.frozen? ⟨w.heap.size,5,none⟩ = false ∧ w1.frozen? ⟨w.heap.size,6,none⟩ = false ∧ w1.frozen? ⟨w.heap.size,7,none⟩ = false) ∧
   (w1.cell? ⟨w.heap.size + 1,0,none⟩ = some (b0) ∧ w1.cell? ⟨w.heap.size + 1,1,none⟩ = some (b1) ∧ w1.cell? ⟨w.heap.size + 1,2,none⟩ = some (b2) ∧ w1.cell? ⟨w.heap.size + 1,3,none⟩ = some (b3) ∧ w1.cell? ⟨w.heap.size + 1,4,none⟩ = some (b4) ∧ w1.cell? ⟨w.heap.size + 1,5,none⟩ = some (b5) ∧ w1.cell? ⟨w.heap.size + 1,6,none⟩ = some (b6) ∧ w1.cell? ⟨w.heap.size + 1,7,none⟩ = some (b7) ∧ w1.frozen? ⟨w.heap.size + 1,0,none⟩ = false ∧ w1.frozen? ⟨w.heap.size + 1,1,none⟩ = false ∧ w1.frozen? ⟨w.heap.size + 1,2,none⟩ = false ∧ w1.frozen? ⟨w.heap.size + 1,3,none⟩ = false ∧ w1.frozen? ⟨w.heap.size + 1,4,none⟩ = false ∧ w1.frozen? ⟨w.heap.size + 1,5,none⟩ = false ∧ w1.frozen? ⟨w.heap.size + 1,6,none⟩ = false ∧ w1.frozen? ⟨w.heap.size + 1,7,none⟩ = false) ∧
   (w1.cell? ⟨w.heap.size + 2,0,none⟩ = some (.bool false) ∧ w1.cell? ⟨w.heap.size + 2,1,none⟩ = some (.string ⟨#[]⟩) ∧ w1.cell? ⟨w.heap.size + 2,2,none⟩ = some (.bool false) ∧ w1.cell? ⟨w.heap.size + 2,3,none⟩ = some (.string ⟨#[]⟩) ∧ w1.cell? ⟨w.heap.size + 2,4,none⟩ = some (.bool false) ∧ w1.cell? ⟨w.heap.size + 2,5,none⟩ = some (.string ⟨#[]⟩) ∧ w1.cell? ⟨w.heap.size + 2,6,none⟩ = some (.bool false) ∧ w1.cell? ⟨w.heap.size + 2,7,none⟩ = some (.string ⟨#[]⟩) ∧ w1.frozen? ⟨w.heap.size + 2,0,none⟩ = false ∧ w1.frozen? ⟨w.heap.size + 2,1,none⟩ = false ∧ w1.frozen? ⟨w.heap.size + 2,2,none⟩ = false ∧ w1.frozen? ⟨w.heap.size + 2,3,none⟩ = false ∧ w1.frozen? ⟨w.heap.size + 2,4,none⟩ = false ∧ w1.frozen? ⟨w.heap.size + 2,5,none⟩ = false ∧ w1.frozen? ⟨w.heap.size + 2,6,none⟩ = false ∧ w1.frozen? ⟨w.heap.size + 2,7,none⟩ = false)) := by
 obtain ⟨w1,hw1⟩ : ∃ w1,w1 = w.alloc (.cells #[a0,a1,a2,a3,a4,a5,a6,a7] 27) := ⟨_,rfl⟩
 have hz1 : w1.heap.size = w.heap.size + 1 := by rw [hw1]; simp
 have hb1 : Below w.heap.size w w1 := by rw [hw1]; exact br.alloc (Nat.le_refl _) _
 obtain ⟨w2,hw2⟩ : ∃ w2,w2 = w1.alloc (.cells #[b0,b1,b2,b3,b4,b5,b6,b7] 27) := ⟨_,rfl⟩
 have hz2 : w2.heap.size = w.heap.size + 2 := by rw [hw2]; simp [hz1]
 have hb2 : Below w1.heap.size w1 w2 := by rw [hw2]; exact br.alloc (Nat.le_refl _) _
 obtain ⟨w3,hw3⟩ : ∃ w3,w3 = w2.alloc (.cells #[.bool false,.string ⟨#[]⟩,.bool false,.string ⟨#[]⟩,.bool false,.string ⟨#[]⟩,.bool false,.string ⟨#[]⟩] 27) := ⟨_,rfl⟩
 have hz3 : w3.heap.size = w.heap.size + 3 := by rw [hw3]; simp [hz2]
 have hb3 : Below w2.heap.size w2 w3 := by rw [hw3]; exact br.alloc (Nat.le_refl _) _
 have t3 : Below w3.heap.size w3 w3 := Below.refl _ _
 have t2 : Below w2.heap.size w2 w3 := hb3.trans (t3.mono hb3.size)
 have t1 : Below w1.heap.size w1 w3 := hb2.trans (t2.mono hb2.size)
 refine ⟨w3,Lib.hid ⟨by rw [hw3,hw2,hw1],hb1.trans (t1.mono hb1.size),hz3,fun w' h => ?_⟩⟩
 have e0 := (t1.trans (h.mono t1.size)).block w.heap.size (by rw [hw1]; simp)
 rw [hw1,heap_alloc_new] at e0
 have e1 := (t2.trans (h.mono t2.size)).block w1.heap.size (by rw [hw2]; simp)
 rw [hw2,heap_alloc_new] at e1
 rw [hz1] at e1
 have e2 := (t3.trans (h.mono t3.size)).block w2.heap.size (by rw [hw3]; simp)
 rw [hw3,heap_alloc_new] at e2
 rw [hz2] at e2
 refine ⟨?_,?_,?_⟩ <;> simp [World.cell?,World.frozen?,e0,e1,e2]
set_option maxRecDepth 100000 in
set_option maxHeartbeats 6400000 in
theorem two_div (x y : QC) (hsx : ShortZ x) (hsy : ShortZ y) (hy0 : y ≠ ⟨0,0⟩) (w : World) :
  Calls Tryz.prog 32 #[encQ x,encQ y,.func (.func 33) #[] #[]] w fun e w' => e = .returned (.tuple #[outG (x / y).re (x / y).im,.int .i64 (outGC (x / y).re (x / y).im)]) ∧ Below w.heap.size w w' := by
 have C1 := fun (w : World) b T hb => opened_ok x y hsx hsy NoA w (rcv_noA _) b _ T rfl hb
 obtain ⟨n00,s00,n01,s01,n02,s02,n03,s03,e0,_⟩ := of_parts x hsx
 obtain ⟨n10,s10,n11,s11,n12,s12,n13,s13,e1,_⟩ := of_parts y hsy
 rw [encTwo_of e0 e1,show (#[.bool n00,.string s00,.bool n01,.string s01,.bool n02,.string s02,.bool n03,.string s03] ++ #[.bool n10,.string s10,.bool n11,.string s11,.bool n12,.string s12,.bool n13,.string s13] : Array Value) = #[.bool n00,.string s00,.bool n01,.string s01,.bool n02,.string s02,.bool n03,.string s03,.bool n10,.string s10,.bool n11,.string s11,.bool n12,.string s12,.bool n13,.string s13] from by simp] at C1
 rw [e0,e1]
 obtain ⟨W,HV⟩ := twbox w (.bool n00) (.string s00) (.bool n01) (.string s01) (.bool n02) (.string s02) (.bool n03) (.string s03) (.bool n10) (.string s10) (.bool n11) (.string s11) (.bool n12) (.string s12) (.bool n13) (.string s13)
 obtain ⟨kb,hkb⟩ : ∃ kb,kb = outGC (x / y).re (x / y).im := ⟨_,rfl⟩
 obtain ⟨gb1,t1,gb2,t2,gb3,t3,gb4,t4,eg,_⟩ := outG_parts (x / y)
 rw [eg,← hkb]
 have HG := Lib.hid (And.intro eg hkb)
 have HC1 := Lib.hid C1
 clear C1 e0 e1 eg hkb
 go_enter Tryz.func32,Tryz.ntmps32
 go_wp2_with fail
 try simp only [Nat.add_assoc,Nat.reduceAdd]
 rw [← HV.out.1]
 have hbl : (W.alloc (.cells #[.bool n00,.string s00,.bool n01,.string s01,.bool n02,.string s02,.bool n03,.string s03,.bool n10,.string s10,.bool n11,.string s11,.bool n12,.string s12,.bool n13,.string s13] 27)).heap[w.heap.size + 3]? = some (.cells #[.bool n00,.string s00,.bool n01,.string s01,.bool n02,.string s02,.bool n03,.string s03,.bool n10,.string s10,.bool n11,.string s11,.bool n12,.string s12,.bool n13,.string s13] 27 (0,0)) := by
  have := heap_alloc_new W (.cells #[.bool n00,.string s00,.bool n01,.string s01,.bool n02,.string s02,.bool n03,.string s03,.bool n10,.string s10,.bool n11,.string s11,.bool n12,.string s12,.bool n13,.string s13] 27 (0,0))
  rwa [HV.out.2.2.1] at this
 refine (HC1.out _ _ _ hbl).mono ?_
 rintro e v1 ⟨g,a0,b0,a1,b1,rfl,hb1,hg,hz,i0,i1⟩
 have hbw : Below W.heap.size W v1 := (br.alloc (Nat.le_refl _) _).trans (hb1.mono (by simp))
 have i0 := Fact.Keeps.noA (NQ.keeps x) i0
 have i1 := Fact.Keeps.noA (NQ.keeps y) i1
 have q0 : v1.cell? ⟨g,0,none⟩ = some (.pointer a0) := by simp [World.cell?,hz]
 have q1 : v1.cell? ⟨g,1,none⟩ = some (.pointer b0) := by simp [World.cell?,hz]
 have q2 : v1.cell? ⟨g,2,none⟩ = some (.pointer a1) := by simp [World.cell?,hz]
 have q3 : v1.cell? ⟨g,3,none⟩ = some (.pointer b1) := by simp [World.cell?,hz]
 have hgs : g < v1.heap.size := (Array.getElem?_eq_some_iff.1 hz).1
 have HE := Lib.hid (And.intro i0 (And.intro i1 hbw))
 clear i0 i1 hbw hb1 hz hbl HC1 hg
 go_wp2_with fail
 refine wp_region_own [(.lit,[]),(.lit,[]),(.lit,[]),(.lit,[]),(.lit,[]),(.lit,[]),(.lit,[]),(.val,[]),(.val,[7]),(.val,[8]),(.val,[8]),(.new (.cells #[.pointer none,.pointer none] 66 (0,0)),[]),(.st 11 (.cells #[.pointer none,.pointer none] 66 (0,0)),[9])]
  (pickF [(7,TupI (NQ (x / y)) 0),(8,TupI (NQ (x / y)) 0),(9,NQ (x / y)),(10,fun v _ _ => v = .int .i64 0),(12,NBlk (x / y))]) (by kernel_rfl) ?_ ?_ ?_ (by simp) (by kernel_rfl)
 ·exact keeps_pick (by
   simp only [List.mem_cons,List.not_mem_nil,or_false]
   rintro p (rfl | rfl | rfl | rfl | rfl)
   ·exact TupI.keeps (NQ.keeps _) _
   ·exact TupI.keeps (NQ.keeps _) _
   ·exact NQ.keeps _
   ·exact keeps_pure _
   ·exact NBlk.keeps _)
 rotate_left
 ·intro q hq z hz
  have : z = (.cells #[.pointer none,.pointer none] 66 (0,0)) := by
   simp only [List.mem_cons,List.not_mem_nil,or_false] at hq
   rcases hq with rfl | rfl | rfl | rfl | rfl | rfl | rfl | rfl | rfl | rfl | rfl | rfl | rfl <;> simp at hz <;> exact hz.symm
  rw [this]; exact noW_num _ _ ⟨_,rfl⟩ ⟨_,rfl⟩ _
 ·repeat (refine ⟨_,fun f w1 h1 => by (have d0 := ct h1 hgs q0; have d1 := ct h1 hgs q1; have d2 := ct h1 hgs q2; have d3 := ct h1 hgs q3; go_simp; rfl),?_⟩)
  simp only [Act.put,nrA,nrB,nrC,Nat.reduceAdd]
  refine ⟨fun f w1 A1 k1 hA hN hd K hK => by
   go_simp
   refine (Div1_ok x y hy0 _ _ A1 w1 hA (later (NQ.keeps _) HE.out.1 k1 hN) (later (NQ.keeps _) HE.out.2.1 k1 hN) 1024 1024 (ZL_short hsx) (ZL_short hsy) (by decide)).mono ?_
   rintro e w' ⟨v,rfl,hb,hr⟩
   exact hK _ _ hb ⟨_,rfl,hr⟩,?_⟩
  simp only [Act.put,nrA,nrB,nrC,Nat.reduceAdd]
  refine ⟨fun f w1 A1 k1 hA hN hd K hK => by
   have i := hd 7 (by simp)
   go_simp
   exact hK _ _ br i,?_⟩
  simp only [Act.put,nrA,nrB,nrC,Nat.reduceAdd]
  refine ⟨fun f w1 A1 k1 hA hN hd K hK => by
   obtain ⟨u,e,hu⟩ : TupI (NQ (x / y)) 0 (f 8) w1 A1 := hd 8 (by simp)
   simp only [e] at hK ⊢
   go_simp
   exact hK _ _ br hu,?_⟩
  simp only [Act.put,nrA,nrB,nrC,Nat.reduceAdd]
  refine ⟨fun f w1 A1 k1 hA hN hd K hK => by
   obtain ⟨u,e,hu⟩ : TupI (NQ (x / y)) 0 (f 8) w1 A1 := hd 8 (by simp)
   simp only [e] at hK ⊢
   go_simp
   exact hK _ _ br rfl,?_⟩
  simp only [Act.put,nrA,nrB,nrC,Nat.reduceAdd]
  refine ⟨fun f w => by go_simp,?_⟩
  simp only [Act.put,nrA,nrB,nrC,Nat.reduceAdd]
  refine ⟨fun f w1 A1 m k1 hA hN hAm hm0 e hz hd K hK => by
   have iP : NQ (x / y) (f 9) w1 A1 := hd 9 (by simp)
   obtain ⟨v1,v2,e9⟩ := nq_agg iP
   rw [e9] at iP
   simp only [e,e9] at hK ⊢
   obtain ⟨k0,k1',f0,f1'⟩ := cel_two hz
   go_simp
   refine hK _ ?_ ⟨m,v1,v2,rfl,by simp,set2_block hz,?_⟩
   ·exact ((Mod.refl m w1).setCell 0 _).setCell 1 _
   ·exact less_of (NQ.keeps _) (keep_at (NQ.keeps _) hAm (keep_at (NQ.keeps _) hAm iP)) (fun b h => h.1),?_⟩
  intro f w1 A1 k1 hA1 hfr hap hF
  have iC : f 10 = .int .i64 0 := hF.1.2
  obtain ⟨m,v1',v2',em,_,zm,iP⟩ : NBlk (x / y) (f 11) w1 A1 := hF.2
  clear hF hap
  simp only [Act.put]
  rw [em,iC]
  generalize f 7 = z7
  generalize f 8 = z8
  generalize f 9 = z9
  have iP := Fact.Keeps.noA (NQ.keeps _) iP
  have hzl := ZL_div (qc_norm hy0) (ZL_short hsx) (ZL_short hsy)
  have HT := Lib.hid (NTold_any (x / y).re (x / y).im _ NoA w1 iP (hzl.1.mono (by decide)) (hzl.2.mono (by decide)))
  rw [HG.out.1,← HG.out.2] at HT
  have hb1 : Below W.heap.size W w1 := HE.out.2.2.trans ((br.drew.trans k1).mono HE.out.2.2.size)
  have g0 : w1.cell? ⟨m,0,none⟩ = some (.pointer v1') := by simp [World.cell?,zm]
  have g1 : w1.cell? ⟨m,1,none⟩ = some (.pointer v2') := by simp [World.cell?,zm]
  have HB1 := Lib.hid hb1
  clear hzl iP zm iC em hA1 hfr k1 hb1 q0 q1 q2 q3 hgs hsx hsy hy0 HE
  go_wp2_with fail
  refine HT.out.mono ?_
  rintro e w3 ⟨rfl,hb3⟩
  have hbw := HB1.out.trans (hb3.mono HB1.out.size)
  obtain ⟨_,_,y0,y1,y2,y3,y4,y5,y6,y7,f0,f1,f2,f3,f4,f5,f6,f7⟩ := HV.out.2.2.2 w3 hbw
  have HB := Lib.hid (HV.out.2.1.trans (hbw.mono HV.out.2.1.size))
  clear hb3 hbw HT g0 g1
  go_wp2_with fail
  refine bodyPost_ret (v := .tuple #[.agg #[.bool gb1,.string t1,.bool gb2,.string t2,.bool gb3,.string t3,.bool gb4,.string t4],.int .i64 kb]) (by simp [results,Tryz.results32,go_sem,y0,y1,y2,y3,y4,y5,y6,y7]) rfl ⟨rfl,?_⟩
  exact set_8 HB.out (by omega)
theorem gdbox (w : World) (a0 a1 a2 a3 a4 a5 a6 a7 b0 b1 b2 b3 b4 b5 b6 b7 : Value) :
  ∃ W,Hid (W = ((w.alloc (.cells #[a0,a1,a2,a3,a4,a5,a6,a7] 27)).alloc (.cells #[b0,b1,b2,b3,b4,b5,b6,b7] 27)).alloc (.cells #[.bool false,.string ⟨#[]⟩,.bool false,.string ⟨#[]⟩,.bool false,.string ⟨#[]⟩,.bool false,.string ⟨#[]⟩] 27) ∧ Below w.heap.size w W ∧ W.heap.size = w.heap.size + 3 ∧ ∀ w1,Below W.heap.size W w1 → (w1.cell? ⟨w.heap.size,0,none⟩ = some (a0) ∧ w1.cell? ⟨w.heap.size,1,none⟩ = some (a1) ∧ w1.cell? ⟨w.heap.size,2,none⟩ = some (a2) ∧ w1.cell? ⟨w.heap.size,3,none⟩ = some (a3) ∧ w1.cell? ⟨w.heap.size,4,none⟩ = some (a4) ∧ w1.cell? ⟨w.heap.size,5,none⟩ = some (a5) ∧ w1.cell? ⟨w.heap.size,6,none⟩ = some (a6) ∧ w1.cell? ⟨w.heap.size,7,none⟩ = some (a7) ∧ w1.frozen? ⟨w.heap.size,0,none⟩ = false ∧ w1.frozen? ⟨w.heap.size,1,none⟩ = false ∧ w1.frozen? ⟨w.heap.size,2,none⟩ = false ∧ w1.frozen? ⟨w.heap.size,3,none⟩ = false ∧ w1.frozen? ⟨w.heap.size,4,none⟩ = false ∧ w1.frozen? ⟨w.heap.size,5,none⟩ = false ∧ w1.frozen? ⟨w.heap.size,6,none⟩ = false ∧ w1.frozen? ⟨w.heap.size,7,none⟩ = false) ∧
   (w1.cell? ⟨w.heap.size + 1,0,none⟩ = some (b0) ∧ w1.cell? ⟨w.heap.size + 1,1,none⟩ = some (b1) ∧ w1.cell? ⟨w.heap.size + 1,2,none⟩ = some (b2) ∧ w1.cell? ⟨w.heap.size + 1,3,none⟩ = some (b3) ∧ w1.cell? ⟨w.heap.size + 1,4,none⟩ = some (b4) ∧ w1.cell? ⟨w.heap.size + 1,5,none⟩ = some (b5) ∧ w1.cell? ⟨w.heap.size + 1,6,none⟩ = some (b6) ∧ w1.cell? ⟨w.heap.size + 1,7,none⟩ = some (b7) ∧ w1.frozen? ⟨w.heap.size + 1,0,none⟩ = false ∧ w1.frozen? ⟨w.heap.size + 1,1,none⟩ = false ∧ w1.frozen? ⟨w.heap.size + 1,2,none⟩ = false ∧ w1.frozen? ⟨w.heap.size + 1,3,none⟩ = false ∧ w1.frozen? ⟨w.heap.size + 1,4,none⟩ = false ∧ w1.frozen? ⟨w.heap.size + 1,5,none⟩ = false ∧ w1.frozen? ⟨w.heap.size + 1,6,none⟩ = false ∧ w1.frozen? ⟨w.heap.size + 1,7,none⟩ = false) ∧
   (w1.cell? ⟨w.heap.size + 2,0,none⟩ = some (.bool false) ∧ w1.cell? ⟨w.heap.size + 2,1,none⟩ = some (.string ⟨#[]⟩) ∧ w1.cell? ⟨w.heap.size + 2,2,none⟩ = some (.bool false) ∧ w1.cell? ⟨w.heap.size + 2,3,none⟩ = some (.string ⟨#[]⟩) ∧ w1.cell? ⟨w.heap.size + 2,4,none⟩ = some (.bool false) ∧ w1.cell? ⟨w.heap.size + 2,5,none⟩ = some (.string ⟨#[]⟩) ∧ w1.cell? ⟨w.heap.size + 2,6,none⟩ = some (.bool false) ∧ w1.cell? ⟨w.heap.size + 2,7,none⟩ = some (.string ⟨#[]⟩) ∧ w1.frozen? ⟨w.heap.size + 2,0,none⟩ = false ∧ w1.frozen? ⟨w.heap.size + 2,1,none⟩ = false ∧ w1.frozen? ⟨w.heap.size + 2,2,none⟩ = false ∧ w1.frozen? ⟨w.heap.size + 2,3,none⟩ = false ∧ w1.frozen? ⟨w.heap.size + 2,4,none⟩ = false ∧ w1.frozen? ⟨w.heap.size + 2,5,none⟩ = false ∧ w1.frozen? ⟨w.heap.size + 2,6,none⟩ = false ∧ w1.frozen? ⟨w.heap.size + 2,7,none⟩ = false)) := by
 obtain ⟨w1,hw1⟩ : ∃ w1,w1 = w.alloc (.cells #[a0,a1,a2,a3,a4,a5,a6,a7] 27) := ⟨_,rfl⟩
 have hz1 : w1.heap.size = w.heap.size + 1 := by rw [hw1]; simp
 have hb1 : Below w.heap.size w w1 := by rw [hw1]; exact br.alloc (Nat.le_refl _) _
 obtain ⟨w2,hw2⟩ : ∃ w2,w2 = w1.alloc (.cells #[b0,b1,b2,b3,b4,b5,b6,b7] 27) := ⟨_,rfl⟩
 have hz2 : w2.heap.size = w.heap.size + 2 := by rw [hw2]; simp [hz1]
 have hb2 : Below w1.heap.size w1 w2 := by rw [hw2]; exact br.alloc (Nat.le_refl _) _
 obtain ⟨w3,hw3⟩ : ∃ w3,w3 = w2.alloc (.cells #[.bool false,.string ⟨#[]⟩,.bool false,.string ⟨#[]⟩,.bool false,.string ⟨#[]⟩,.bool false,.string ⟨#[]⟩] 27) := ⟨_,rfl⟩
 have hz3 : w3.heap.size = w.heap.size + 3 := by rw [hw3]; simp [hz2]
 have hb3 : Below w2.heap.size w2 w3 := by rw [hw3]; exact br.alloc (Nat.le_refl _) _
 have t3 : Below w3.heap.size w3 w3 := Below.refl _ _
 have t2 : Below w2.heap.size w2 w3 := hb3.trans (t3.mono hb3.size)
 have t1 : Below w1.heap.size w1 w3 := hb2.trans (t2.mono hb2.size)
 refine ⟨w3,Lib.hid ⟨by rw [hw3,hw2,hw1],hb1.trans (t1.mono hb1.size),hz3,fun w' h => ?_⟩⟩
 have e0 := (t1.trans (h.mono t1.size)).block w.heap.size (by rw [hw1]; simp)
 rw [hw1,heap_alloc_new] at e0
 have e1 := (t2.trans (h.mono t2.size)).block w1.heap.size (by rw [hw2]; simp)
 rw [hw2,heap_alloc_new] at e1
 rw [hz1] at e1
 have e2 := (t3.trans (h.mono t3.size)).block w2.heap.size (by rw [hw3]; simp)
 rw [hw3,heap_alloc_new] at e2
 rw [hz2] at e2
 refine ⟨?_,?_,?_⟩ <;> simp [World.cell?,World.frozen?,e0,e1,e2]
set_option maxRecDepth 100000 in
set_option maxHeartbeats 3200000 in
theorem GDiv_ok (x y : QC) (hsx : ShortZ x) (hsy : ShortZ y) (hy0 : y ≠ ⟨0,0⟩) (w : World) :
  Calls Tryz.prog 13 #[encQ x,encQ y] w fun e w' => e = .returned (.tuple #[outG (x / y).re (x / y).im,.int .i64 (outGC (x / y).re (x / y).im)]) ∧ Below w.heap.size w w' := by
 have C1 := two_div x y hsx hsy hy0
 obtain ⟨n00,s00,n01,s01,n02,s02,n03,s03,e0,_⟩ := of_parts x hsx
 obtain ⟨n10,s10,n11,s11,n12,s12,n13,s13,e1,_⟩ := of_parts y hsy
 obtain ⟨b1,t1,b2,t2,b3,t3,b4,t4,eg,_⟩ := outG_parts (x / y)
 obtain ⟨kb,hkb⟩ : ∃ kb,kb = outGC (x / y).re (x / y).im := ⟨_,rfl⟩
 rw [e0,e1,eg,← hkb] at C1
 rw [e0,e1,eg,← hkb]
 obtain ⟨W,HV⟩ := gdbox w (.bool n00) (.string s00) (.bool n01) (.string s01) (.bool n02) (.string s02) (.bool n03) (.string s03) (.bool n10) (.string s10) (.bool n11) (.string s11) (.bool n12) (.string s12) (.bool n13) (.string s13)
 have HC1 := Lib.hid C1
 clear C1 e0 e1 eg hkb
 go_enter Tryz.func13,Tryz.ntmps13
 go_wp2_with fail
 try simp only [Nat.add_assoc,Nat.reduceAdd]
 rw [← HV.out.1]
 refine (HC1.out _).mono ?_
 rintro e w3 ⟨rfl,hb3⟩
 obtain ⟨_,_,y0,y1,y2,y3,y4,y5,y6,y7,f0,f1,f2,f3,f4,f5,f6,f7⟩ := HV.out.2.2.2 w3 hb3
 have HB := Lib.hid (HV.out.2.1.trans (hb3.mono HV.out.2.1.size))
 clear hb3 HC1
 go_wp2_with fail
 refine bodyPost_ret (v := .tuple #[.agg #[.bool b1,.string t1,.bool b2,.string t2,.bool b3,.string t3,.bool b4,.string t4],.int .i64 kb]) (by simp [results,Tryz.results13,go_sem,y0,y1,y2,y3,y4,y5,y6,y7]) rfl ⟨rfl,?_⟩
 exact set_8 HB.out (by omega)
end Go.Proofs.YtepefgkihnjjaaaGreat
