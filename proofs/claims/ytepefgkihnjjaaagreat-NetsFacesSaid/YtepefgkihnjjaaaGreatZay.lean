/- Laws for the walk. -/
import Derived.Test.YtepefgkihnjjaaaGreatZzz
import Derived.Test.YtepefgkihnjjaaaGreatZax
import Derived.ArgAppend
set_option linter.unusedVariables false
namespace Go.Proofs.YtepefgkihnjjaaaGreat
open Go.RowKit Tr
theorem wpList_load_rowG {P : Program} {ops : Array Oper} {rest : List Oper} {o : Oper} {a : Act} {w : World} {Q : Exit → Act → World → Prop} (hgd : Region.wanted o (yielded ops a.tmps) = true) (ty : TypeId) (x : Operand) (ho : o.op = .load ty x)
  (g : Nat) (hx : a.eval x = .pointer (some ⟨g,0,none⟩)) (t : TypeId) (cs : Array Value) (fr : Nat × Nat) (d : TypeDesc) (hg : w.heap[g]? = some (.cells cs t fr))
  (hu : P.underlying ty = some d) (hd : (match d with | .struct _ | .array _ _ => true | _ => false) = true) (hi : (P.info? ty).map (·.size) = some cs.size)
  (h : wpList P ops Q rest (a.put o.dst (.agg cs)) w) : wpList P ops Q (o :: rest) a w :=
 wpList_step fun _ hK => by rw [if_pos hgd]; exact wp_load_row ty x ho g hx t cs fr d hg hu hd hi (hK _ _ h)
theorem ckbox (w : World) (a0 a1 a2 a3 a4 a5 a6 a7 a8 a9 a10 a11 a12 a13 a14 a15 a16 a17 a18 a19 a20 a21 a22 a23 a24 a25 a26 a27 a28 a29 a30 a31 a32 a33 a34 a35 : Value) :
  ∃ W,Hid (W = (w.alloc (.cells #[a0,a1,a2,a3,a4,a5,a6,a7,a8,a9,a10,a11,a12,a13,a14,a15,a16,a17,a18,a19,a20,a21,a22,a23,a24,a25,a26,a27,a28,a29,a30,a31,a32,a33,a34,a35] 73)).alloc (.cells #[.bool false,.pointer none,.pointer none,.bool false,.pointer none,.pointer none,.bool false,.pointer none,.pointer none,.bool false,.pointer none,.pointer none] 70) ∧ Below w.heap.size w W ∧ W.heap.size = w.heap.size + 2 ∧ ∀ w1,Below W.heap.size W w1 → (w1.heap[w.heap.size]? = some (.cells #[a0,a1,a2,a3,a4,a5,a6,a7,a8,a9,a10,a11,a12,a13,a14,a15,a16,a17,a18,a19,a20,a21,a22,a23,a24,a25,a26,a27,a28,a29,a30,a31,a32,a33,a34,a35] 73 (0,0))) ∧
   (w1.heap[w.heap.size + 1]? = some (.cells #[.bool false,.pointer none,.pointer none,.bool false,.pointer none,.pointer none,.bool false,.pointer none,.pointer none,.bool false,.pointer none,.pointer none] 70 (0,0)))) := by
 obtain ⟨w1,hw1⟩ : ∃ w1,w1 = w.alloc (.cells #[a0,a1,a2,a3,a4,a5,a6,a7,a8,a9,a10,a11,a12,a13,a14,a15,a16,a17,a18,a19,a20,a21,a22,a23,a24,a25,a26,a27,a28,a29,a30,a31,a32,a33,a34,a35] 73) := ⟨_,rfl⟩
 have hz1 : w1.heap.size = w.heap.size + 1 := by rw [hw1]; simp
 have hb1 : Below w.heap.size w w1 := by rw [hw1]; exact br.alloc (Nat.le_refl _) _
 obtain ⟨w2,hw2⟩ : ∃ w2,w2 = w1.alloc (.cells #[.bool false,.pointer none,.pointer none,.bool false,.pointer none,.pointer none,.bool false,.pointer none,.pointer none,.bool false,.pointer none,.pointer none] 70) := ⟨_,rfl⟩
 have hz2 : w2.heap.size = w.heap.size + 2 := by rw [hw2]; simp [hz1]
 have hb2 : Below w1.heap.size w1 w2 := by rw [hw2]; exact br.alloc (Nat.le_refl _) _
 have t2 : Below w2.heap.size w2 w2 := Below.refl _ _
 have t1 : Below w1.heap.size w1 w2 := hb2.trans (t2.mono hb2.size)
 refine ⟨w2,Lib.hid ⟨by rw [hw2,hw1],hb1.trans (t1.mono hb1.size),hz2,fun w' h => ?_⟩⟩
 have e0 := (t1.trans (h.mono t1.size)).block w.heap.size (by rw [hw1]; simp)
 rw [hw1,heap_alloc_new] at e0
 have e1 := (t2.trans (h.mono t2.size)).block w1.heap.size (by rw [hw2]; simp)
 rw [hw2,heap_alloc_new] at e1
 rw [hz1] at e1
 exact ⟨e0,e1⟩
theorem fof_agg {p0 p1 p2 p3 : Pt} {v : Value} {w : World} {A : Nat → Prop} (h : FoF p0 p1 p2 p3 v w A) : ∃ j0 a0 b0 j1 a1 b1 j2 a2 b2 j3 a3 b3,v = .agg #[.bool j0,.pointer a0,.pointer b0,.bool j1,.pointer a1,.pointer b1,.bool j2,.pointer a2,.pointer b2,.bool j3,.pointer a3,.pointer b3] := by
 obtain ⟨i0,a0,b0,i1,a1,b1,i2,a2,b2,i3,a3,b3,e,_⟩ := h
 exact ⟨i0,a0,b0,i1,a1,b1,i2,a2,b2,i3,a3,b3,e⟩
theorem cells_12 {w : World} {n : Nat} {x0 x1 x2 x3 x4 x5 x6 x7 x8 x9 x10 x11 : Value} {T : TypeId} (h : w.heap[n]? = some (.cells #[x0,x1,x2,x3,x4,x5,x6,x7,x8,x9,x10,x11] T (0,0))) :
  (w.cell? ⟨n,0,none⟩ = some x0 ∧ w.cell? ⟨n,1,none⟩ = some x1 ∧ w.cell? ⟨n,2,none⟩ = some x2 ∧ w.cell? ⟨n,3,none⟩ = some x3 ∧ w.cell? ⟨n,4,none⟩ = some x4 ∧ w.cell? ⟨n,5,none⟩ = some x5 ∧ w.cell? ⟨n,6,none⟩ = some x6 ∧ w.cell? ⟨n,7,none⟩ = some x7 ∧ w.cell? ⟨n,8,none⟩ = some x8 ∧ w.cell? ⟨n,9,none⟩ = some x9 ∧ w.cell? ⟨n,10,none⟩ = some x10 ∧ w.cell? ⟨n,11,none⟩ = some x11) ∧
  w.frozen? ⟨n,0,none⟩ = false ∧ w.frozen? ⟨n,1,none⟩ = false ∧ w.frozen? ⟨n,2,none⟩ = false ∧ w.frozen? ⟨n,3,none⟩ = false ∧ w.frozen? ⟨n,4,none⟩ = false ∧ w.frozen? ⟨n,5,none⟩ = false ∧ w.frozen? ⟨n,6,none⟩ = false ∧ w.frozen? ⟨n,7,none⟩ = false ∧ w.frozen? ⟨n,8,none⟩ = false ∧ w.frozen? ⟨n,9,none⟩ = false ∧ w.frozen? ⟨n,10,none⟩ = false ∧ w.frozen? ⟨n,11,none⟩ = false := by
 simp [World.cell?,World.frozen?,h]
set_option maxRecDepth 100000 in
set_option maxHeartbeats 6400000 in
theorem checked_ok (p0 p1 p2 p3 : Pt) (h0 : ShortP p0) (h1 : ShortP p1) (h2 : ShortP p2) (h3 : ShortP p3) (d01 : p0 ≠ p1) (d02 : p0 ≠ p2) (d03 : p0 ≠ p3) (d12 : p1 ≠ p2) (d13 : p1 ≠ p3) (d23 : p2 ≠ p3) (v : Value) (hv : v = encP4 p0 p1 p2 p3) (A : Nat → Prop) (w : World) (hA : Rcv A w) :
  Calls Tryz.prog 29 #[v] w fun e w' => ∃ u,e = .returned (.tuple #[u,.int .i64 0]) ∧ Below w.heap.size w w' ∧ FoF p0 p1 p2 p3 u w' A := by
 have C1 := fun (A : Nat → Prop) (w : World) (hA : Rcv A w) => open_ok p0 p1 p2 p3 h0 h1 h2 h3 v hv A w hA
 have C2 := fun (w : World) => most_one p0 p1 p2 p3 d01 d02 d03 d12 d13 d23 v hv w
 obtain ⟨i0,n00,s00,n01,s01,n02,s02,n03,s03,e0⟩ := encP_nine p0
 obtain ⟨i1,n10,s10,n11,s11,n12,s12,n13,s13,e1⟩ := encP_nine p1
 obtain ⟨i2,n20,s20,n21,s21,n22,s22,n23,s23,e2⟩ := encP_nine p2
 obtain ⟨i3,n30,s30,n31,s31,n32,s32,n33,s33,e3⟩ := encP_nine p3
 rw [encP4_of e0 e1 e2 e3] at hv
 rw [show (#[.bool i0,.bool n00,.string s00,.bool n01,.string s01,.bool n02,.string s02,.bool n03,.string s03] ++ #[.bool i1,.bool n10,.string s10,.bool n11,.string s11,.bool n12,.string s12,.bool n13,.string s13] ++ #[.bool i2,.bool n20,.string s20,.bool n21,.string s21,.bool n22,.string s22,.bool n23,.string s23] ++ #[.bool i3,.bool n30,.string s30,.bool n31,.string s31,.bool n32,.string s32,.bool n33,.string s33] : Array Value) = #[.bool i0,.bool n00,.string s00,.bool n01,.string s01,.bool n02,.string s02,.bool n03,.string s03,.bool i1,.bool n10,.string s10,.bool n11,.string s11,.bool n12,.string s12,.bool n13,.string s13,.bool i2,.bool n20,.string s20,.bool n21,.string s21,.bool n22,.string s22,.bool n23,.string s23,.bool i3,.bool n30,.string s30,.bool n31,.string s31,.bool n32,.string s32,.bool n33,.string s33] from by simp] at hv
 subst hv
 obtain ⟨W,HV⟩ := ckbox w (.bool i0) (.bool n00) (.string s00) (.bool n01) (.string s01) (.bool n02) (.string s02) (.bool n03) (.string s03) (.bool i1) (.bool n10) (.string s10) (.bool n11) (.string s11) (.bool n12) (.string s12) (.bool n13) (.string s13) (.bool i2) (.bool n20) (.string s20) (.bool n21) (.string s21) (.bool n22) (.string s22) (.bool n23) (.string s23) (.bool i3) (.bool n30) (.string s30) (.bool n31) (.string s31) (.bool n32) (.string s32) (.bool n33) (.string s33)
 obtain ⟨hg,r0⟩ := HV.out.2.2.2 W br
 have hgc := hg
 rw [HV.out.1] at hgc
 have hR : Rcv (Mo A (w.heap.size + 1)) W := rcv_more hA HV.out.2.1 r0 (noW_12 _ _ _ _ _ _ _ _ _ _ _ _ _)
 have HC1 := Lib.hid (C1 (Mo A (w.heap.size + 1)) W hR)
 have HC2 := Lib.hid C2
 clear C1 C2 e0 e1 e2 e3 h0 h1 h2 h3 d01 d02 d03 d12 d13 d23 hR hA hg r0
 go_enter Tryz.func29,Tryz.ntmps29
 go_wp2_with (first
  | (refine Go.Great.wpList_boxTo rfl 73 _ rfl (some 1) rfl w.heap.size rfl _ rfl ?_)
  | (refine wpList_load_row rfl 73 _ rfl (w.heap.size) rfl 73 _ (0,0) _ hgc Tryz.underlying73 rfl (by kernel_rfl) ?_))
 rw [← HV.out.1]
 clear hgc
 refine HC1.out.mono ?_
 rintro e w1 ⟨u,rfl,hb1,hu⟩
 obtain ⟨j0,a0,b0,j1,a1,b1,j2,a2,b2,j3,a3,b3,rfl⟩ := fof_agg hu
 have hgz := (HV.out.2.2.2 w1 hb1).1
 have hg1 : (w1.alloc (.cells #[.bool j0,.pointer a0,.pointer b0,.bool j1,.pointer a1,.pointer b1,.bool j2,.pointer a2,.pointer b2,.bool j3,.pointer a3,.pointer b3] 70)).heap[w.heap.size]? = some (.cells #[.bool i0,.bool n00,.string s00,.bool n01,.string s01,.bool n02,.string s02,.bool n03,.string s03,.bool i1,.bool n10,.string s10,.bool n11,.string s11,.bool n12,.string s12,.bool n13,.string s13,.bool i2,.bool n20,.string s20,.bool n21,.string s21,.bool n22,.string s22,.bool n23,.string s23,.bool i3,.bool n30,.string s30,.bool n31,.string s31,.bool n32,.string s32,.bool n33,.string s33] 73 (0,0)) := by
  rw [Below.heap_alloc _ _ _ (by have := hb1.size; have := HV.out.2.2.1; omega)]; exact hgz
 have HU := Lib.hid (And.intro hu hb1)
 clear hu hb1 hgz HC1
 go_wp2_with (refine wpList_load_rowG (by kernel_rfl) 73 _ rfl (w.heap.size) rfl 73 _ (0,0) _ hg1 Tryz.underlying73 rfl (by kernel_rfl) ?_)
 refine (HC2.out _).mono ?_
 rintro e w2 ⟨rfl,hb2⟩
 have hb12 : Below w1.heap.size w1 w2 := (br.alloc (Nat.le_refl _) _).trans (hb2.mono (by simp))
 have ho : w2.heap[w1.heap.size]? = some (.cells #[.bool j0,.pointer a0,.pointer b0,.bool j1,.pointer a1,.pointer b1,.bool j2,.pointer a2,.pointer b2,.bool j3,.pointer a3,.pointer b3] 70 (0,0)) := (hb2.block _ (by simp)).trans (heap_alloc_new w1 _)
 have hbw := HU.out.2.trans (hb12.mono HU.out.2.size)
 have hr := (HV.out.2.2.2 w2 hbw).2
 have HE := Lib.hid (And.intro (Fact.Keeps.below (FoF.keeps _ _ _ _) hb12 HU.out.1) (HV.out.2.1.trans (hbw.mono HV.out.2.1.size)))
 clear hb2 hb12 hbw hg1 HU HC2
 go_wp2_with (first
  | (refine wpList_load_row rfl 70 _ rfl (w1.heap.size) rfl 70 _ (0,0) _ ho Tryz.underlying70 rfl (by kernel_rfl) ?_)
  | (refine wpList_store_row rfl 70 _ _ rfl (w.heap.size + 1) #[.bool j0,.pointer a0,.pointer b0,.bool j1,.pointer a1,.pointer b1,.bool j2,.pointer a2,.pointer b2,.bool j3,.pointer a3,.pointer b3] rfl rfl 70 _ hr (by kernel_rfl) (by kernel_rfl) (by kernel_rfl) ?_))
 have hres := setRow_heap w2 (w.heap.size + 1) _ #[.bool j0,.pointer a0,.pointer b0,.bool j1,.pointer a1,.pointer b1,.bool j2,.pointer a2,.pointer b2,.bool j3,.pointer a3,.pointer b3] _ _ hr
 refine bodyPost_ret (v := .tuple #[.agg #[.bool j0,.pointer a0,.pointer b0,.bool j1,.pointer a1,.pointer b1,.bool j2,.pointer a2,.pointer b2,.bool j3,.pointer a3,.pointer b3],.int .i64 0]) (by simp [results,Tryz.results29,go_sem,World.cell?,hres]) rfl ⟨_,rfl,below_setRow HE.out.2 (by omega) _,?_⟩
 exact FoF.keeps _ _ _ _ _ _ _ _ _ (by simp) (fun b _ hb => ⟨setRow_other _ _ _ _ (fun e => hb (.inr e)),fun h => hb (.inl h)⟩) HE.out.1
theorem rtbox (w : World) (a0 a1 a2 a3 a4 a5 a6 a7 a8 b0 b1 b2 b3 b4 b5 b6 b7 b8 c0 c1 c2 c3 c4 c5 c6 c7 c8 d0 d1 d2 d3 d4 d5 d6 d7 d8 : Value) :
  ∃ W,Hid (W = ((((w.alloc (.cells #[a0,a1,a2,a3,a4,a5,a6,a7,a8] 29)).alloc (.cells #[b0,b1,b2,b3,b4,b5,b6,b7,b8] 29)).alloc (.cells #[c0,c1,c2,c3,c4,c5,c6,c7,c8] 29)).alloc (.cells #[d0,d1,d2,d3,d4,d5,d6,d7,d8] 29)).alloc (.cells #[.bool false,.bool false,.string ⟨#[]⟩,.bool false,.string ⟨#[]⟩,.bool false,.string ⟨#[]⟩,.bool false,.string ⟨#[]⟩] 29) ∧ Below w.heap.size w W ∧ W.heap.size = w.heap.size + 5 ∧ ∀ w1,Below W.heap.size W w1 → (w1.cell? ⟨w.heap.size,0,none⟩ = some (a0) ∧ w1.cell? ⟨w.heap.size,1,none⟩ = some (a1) ∧ w1.cell? ⟨w.heap.size,2,none⟩ = some (a2) ∧ w1.cell? ⟨w.heap.size,3,none⟩ = some (a3) ∧ w1.cell? ⟨w.heap.size,4,none⟩ = some (a4) ∧ w1.cell? ⟨w.heap.size,5,none⟩ = some (a5) ∧ w1.cell? ⟨w.heap.size,6,none⟩ = some (a6) ∧ w1.cell? ⟨w.heap.size,7,none⟩ = some (a7) ∧ w1.cell? ⟨w.heap.size,8,none⟩ = some (a8) ∧ w1.frozen? ⟨w.heap.size,0,none⟩ = false ∧ w1.frozen? ⟨w.heap.size,1,none⟩ = false ∧ w1.frozen? ⟨w.heap.size,2,none⟩ = false ∧ w1.frozen? ⟨w.heap.size,3,none⟩ = false ∧ w1.frozen? ⟨w.heap.size,4,none⟩ = false ∧ w1.frozen? ⟨w.heap.size,5,none⟩ = false ∧ w1.frozen? ⟨w.heap.size,6,none⟩ = false ∧ w1.frozen? ⟨w.heap.size,7,none⟩ = false ∧ w1.frozen? ⟨w.heap.size,8,none⟩ = false) ∧
   (w1.cell? ⟨w.heap.size + 1,0,none⟩ = some (b0) ∧ w1.cell? ⟨w.heap.size + 1,1,none⟩ = some (b1) ∧ w1.cell? ⟨w.heap.size + 1,2,none⟩ = some (b2) ∧ w1.cell? ⟨w.heap.size + 1,3,none⟩ = some (b3) ∧ w1.cell? ⟨w.heap.size + 1,4,none⟩ = some (b4) ∧ w1.cell? ⟨w.heap.size + 1,5,none⟩ = some (b5) ∧ w1.cell? ⟨w.heap.size + 1,6,none⟩ = some (b6) ∧ w1.cell? ⟨w.heap.size + 1,7,none⟩ = some (b7) ∧ w1.cell? ⟨w.heap.size + 1,8,none⟩ = some (b8) ∧ w1.frozen? ⟨w.heap.size + 1,0,none⟩ = false ∧ w1.frozen? ⟨w.heap.size + 1,1,none⟩ = false ∧ w1.frozen? ⟨w.heap.size + 1,2,none⟩ = false ∧ w1.frozen? ⟨w.heap.size + 1,3,none⟩ = false ∧ w1.frozen? ⟨w.heap.size + 1,4,none⟩ = false ∧ w1.frozen? ⟨w.heap.size + 1,5,none⟩ = false ∧ w1.frozen? ⟨w.heap.size + 1,6,none⟩ = false ∧ w1.frozen? ⟨w.heap.size + 1,7,none⟩ = false ∧ w1.frozen? ⟨w.heap.size + 1,8,none⟩ = false) ∧
   (w1.cell? ⟨w.heap.size + 2,0,none⟩ = some (c0) ∧ w1.cell? ⟨w.heap.size + 2,1,none⟩ = some (c1) ∧ w1.cell? ⟨w.heap.size + 2,2,none⟩ = some (c2) ∧ w1.cell? ⟨w.heap.size + 2,3,none⟩ = some (c3) ∧ w1.cell? ⟨w.heap.size + 2,4,none⟩ = some (c4) ∧ w1.cell? ⟨w.heap.size + 2,5,none⟩ = some (c5) ∧ w1.cell? ⟨w.heap.size + 2,6,none⟩ = some (c6) ∧ w1.cell? ⟨w.heap.size + 2,7,none⟩ = some (c7) ∧ w1.cell? ⟨w.heap.size + 2,8,none⟩ = some (c8) ∧ w1.frozen? ⟨w.heap.size + 2,0,none⟩ = false ∧ w1.frozen? ⟨w.heap.size + 2,1,none⟩ = false ∧ w1.frozen? ⟨w.heap.size + 2,2,none⟩ = false ∧ w1.frozen? ⟨w.heap.size + 2,3,none⟩ = false ∧ w1.frozen? ⟨w.heap.size + 2,4,none⟩ = false ∧ w1.frozen? ⟨w.heap.size + 2,5,none⟩ = false ∧ w1.frozen? ⟨w.heap.size + 2,6,none⟩ = false ∧ w1.frozen? ⟨w.heap.size + 2,7,none⟩ = false ∧ w1.frozen? ⟨w.heap.size + 2,8,none⟩ = false) ∧
   (w1.cell? ⟨w.heap.size + 3,0,none⟩ = some (d0) ∧ w1.cell? ⟨w.heap.size + 3,1,none⟩ = some (d1) ∧ w1.cell? ⟨w.heap.size + 3,2,none⟩ = some (d2) ∧ w1.cell? ⟨w.heap.size + 3,3,none⟩ = some (d3) ∧ w1.cell? ⟨w.heap.size + 3,4,none⟩ = some (d4) ∧ w1.cell? ⟨w.heap.size + 3,5,none⟩ = some (d5) ∧ w1.cell? ⟨w.heap.size + 3,6,none⟩ = some (d6) ∧ w1.cell? ⟨w.heap.size + 3,7,none⟩ = some (d7) ∧ w1.cell? ⟨w.heap.size + 3,8,none⟩ = some (d8) ∧ w1.frozen? ⟨w.heap.size + 3,0,none⟩ = false ∧ w1.frozen? ⟨w.heap.size + 3,1,none⟩ = false ∧ w1.frozen? ⟨w.heap.size + 3,2,none⟩ = false ∧ w1.frozen? ⟨w.heap.size + 3,3,none⟩ = false ∧ w1.frozen? ⟨w.heap.size + 3,4,none⟩ = false ∧ w1.frozen? ⟨w.heap.size + 3,5,none⟩ = false ∧ w1.frozen? ⟨w.heap.size + 3,6,none⟩ = false ∧ w1.frozen? ⟨w.heap.size + 3,7,none⟩ = false ∧ w1.frozen? ⟨w.heap.size + 3,8,none⟩ = false) ∧
   (w1.cell? ⟨w.heap.size + 4,0,none⟩ = some (.bool false) ∧ w1.cell? ⟨w.heap.size + 4,1,none⟩ = some (.bool false) ∧ w1.cell? ⟨w.heap.size + 4,2,none⟩ = some (.string ⟨#[]⟩) ∧ w1.cell? ⟨w.heap.size + 4,3,none⟩ = some (.bool false) ∧ w1.cell? ⟨w.heap.size + 4,4,none⟩ = some (.string ⟨#[]⟩) ∧ w1.cell? ⟨w.heap.size + 4,5,none⟩ = some (.bool false) ∧ w1.cell? ⟨w.heap.size + 4,6,none⟩ = some (.string ⟨#[]⟩) ∧ w1.cell? ⟨w.heap.size + 4,7,none⟩ = some (.bool false) ∧ w1.cell? ⟨w.heap.size + 4,8,none⟩ = some (.string ⟨#[]⟩) ∧ w1.frozen? ⟨w.heap.size + 4,0,none⟩ = false ∧ w1.frozen? ⟨w.heap.size + 4,1,none⟩ = false ∧ w1.frozen? ⟨w.heap.size + 4,2,none⟩ = false ∧ w1.frozen? ⟨w.heap.size + 4,3,none⟩ = false ∧ w1.frozen? ⟨w.heap.size + 4,4,none⟩ = false ∧ w1.frozen? ⟨w.heap.size + 4,5,none⟩ = false ∧ w1.frozen? ⟨w.heap.size + 4,6,none⟩ = false ∧ w1.frozen? ⟨w.heap.size + 4,7,none⟩ = false ∧ w1.frozen? ⟨w.heap.size + 4,8,none⟩ = false)) := by
 obtain ⟨w1,hw1⟩ : ∃ w1,w1 = w.alloc (.cells #[a0,a1,a2,a3,a4,a5,a6,a7,a8] 29) := ⟨_,rfl⟩
 have hz1 : w1.heap.size = w.heap.size + 1 := by rw [hw1]; simp
 have hb1 : Below w.heap.size w w1 := by rw [hw1]; exact br.alloc (Nat.le_refl _) _
 obtain ⟨w2,hw2⟩ : ∃ w2,w2 = w1.alloc (.cells #[b0,b1,b2,b3,b4,b5,b6,b7,b8] 29) := ⟨_,rfl⟩
 have hz2 : w2.heap.size = w.heap.size + 2 := by rw [hw2]; simp [hz1]
 have hb2 : Below w1.heap.size w1 w2 := by rw [hw2]; exact br.alloc (Nat.le_refl _) _
 obtain ⟨w3,hw3⟩ : ∃ w3,w3 = w2.alloc (.cells #[c0,c1,c2,c3,c4,c5,c6,c7,c8] 29) := ⟨_,rfl⟩
 have hz3 : w3.heap.size = w.heap.size + 3 := by rw [hw3]; simp [hz2]
 have hb3 : Below w2.heap.size w2 w3 := by rw [hw3]; exact br.alloc (Nat.le_refl _) _
 obtain ⟨w4,hw4⟩ : ∃ w4,w4 = w3.alloc (.cells #[d0,d1,d2,d3,d4,d5,d6,d7,d8] 29) := ⟨_,rfl⟩
 have hz4 : w4.heap.size = w.heap.size + 4 := by rw [hw4]; simp [hz3]
 have hb4 : Below w3.heap.size w3 w4 := by rw [hw4]; exact br.alloc (Nat.le_refl _) _
 obtain ⟨w5,hw5⟩ : ∃ w5,w5 = w4.alloc (.cells #[.bool false,.bool false,.string ⟨#[]⟩,.bool false,.string ⟨#[]⟩,.bool false,.string ⟨#[]⟩,.bool false,.string ⟨#[]⟩] 29) := ⟨_,rfl⟩
 have hz5 : w5.heap.size = w.heap.size + 5 := by rw [hw5]; simp [hz4]
 have hb5 : Below w4.heap.size w4 w5 := by rw [hw5]; exact br.alloc (Nat.le_refl _) _
 have t5 : Below w5.heap.size w5 w5 := Below.refl _ _
 have t4 : Below w4.heap.size w4 w5 := hb5.trans (t5.mono hb5.size)
 have t3 : Below w3.heap.size w3 w5 := hb4.trans (t4.mono hb4.size)
 have t2 : Below w2.heap.size w2 w5 := hb3.trans (t3.mono hb3.size)
 have t1 : Below w1.heap.size w1 w5 := hb2.trans (t2.mono hb2.size)
 refine ⟨w5,Lib.hid ⟨by rw [hw5,hw4,hw3,hw2,hw1],hb1.trans (t1.mono hb1.size),hz5,fun w' h => ?_⟩⟩
 have e0 := (t1.trans (h.mono t1.size)).block w.heap.size (by rw [hw1]; simp)
 rw [hw1,heap_alloc_new] at e0
 have e1 := (t2.trans (h.mono t2.size)).block w1.heap.size (by rw [hw2]; simp)
 rw [hw2,heap_alloc_new] at e1
 rw [hz1] at e1
 have e2 := (t3.trans (h.mono t3.size)).block w2.heap.size (by rw [hw3]; simp)
 rw [hw3,heap_alloc_new] at e2
 rw [hz2] at e2
 have e3 := (t4.trans (h.mono t4.size)).block w3.heap.size (by rw [hw4]; simp)
 rw [hw4,heap_alloc_new] at e3
 rw [hz3] at e3
 have e4 := (t5.trans (h.mono t5.size)).block w4.heap.size (by rw [hw5]; simp)
 rw [hw5,heap_alloc_new] at e4
 rw [hz4] at e4
 refine ⟨?_,?_,?_,?_,?_⟩ <;> simp [World.cell?,World.frozen?,e0,e1,e2,e3,e4]
theorem ZL_ratP {p0 p1 p2 p3 : Pt} (h0 : ShortP p0) (h1 : ShortP p1) (h2 : ShortP p2) (h3 : ShortP p3) : ZL (pz (ratP p0 p1 p2 p3)) 137438953472 := by
 unfold ratP
 split
 ·exact ⟨RL_zero.mono (by decide),RL_zero.mono (by decide)⟩
 ·rename_i hy
  exact (ZL_div (fun h => hy (by
   have := norm_zero.1 h
   revert this
   generalize (ptX p1 * ptY p2 - ptY p1 * ptX p2) * (ptX p3 * ptY p0 - ptY p3 * ptX p0) = y
   obtain ⟨re,im⟩ := y
   rintro ⟨h1,h2⟩
   simp only at h1 h2
   rw [h1,h2])) (ZL_mul (ZL_det (ZL_ptX h0) (ZL_ptY p0) (ZL_ptX h1) (ZL_ptY p1)) (ZL_det (ZL_ptX h2) (ZL_ptY p2) (ZL_ptX h3) (ZL_ptY p3))) (ZL_mul (ZL_det (ZL_ptX h1) (ZL_ptY p1) (ZL_ptX h2) (ZL_ptY p2)) (ZL_det (ZL_ptX h3) (ZL_ptY p3) (ZL_ptX h0) (ZL_ptY p0)))).mono (by decide)
theorem outPt_nine (p : Pt) : ∃ i n1 s1 n2 s2 n3 s3 n4 s4,outPt p = .agg #[.bool i,.bool n1,.string s1,.bool n2,.string s2,.bool n3,.string s3,.bool n4,.string s4] := by
 unfold outPt
 split
 ·exact encP_nine p
 ·exact ⟨_,_,_,_,_,_,_,_,_,rfl⟩
set_option maxRecDepth 100000 in
set_option maxHeartbeats 6400000 in
theorem Ratio_ok (p0 p1 p2 p3 : Pt) (h0 : ShortP p0) (h1 : ShortP p1) (h2 : ShortP p2) (h3 : ShortP p3) (d01 : p0 ≠ p1) (d02 : p0 ≠ p2) (d03 : p0 ≠ p3) (d12 : p1 ≠ p2) (d13 : p1 ≠ p3) (d23 : p2 ≠ p3) (w : World) :
  Calls Tryz.prog 12 #[encP p0,encP p1,encP p2,encP p3] w fun e w' => e = .returned (.tuple #[outPt (ratP p0 p1 p2 p3),.int .i64 (outPtC (ratP p0 p1 p2 p3))]) ∧ Below w.heap.size w w' := by
 have C1 := fun (A : Nat → Prop) (w : World) (hA : Rcv A w) => checked_ok p0 p1 p2 p3 h0 h1 h2 h3 d01 d02 d03 d12 d13 d23 _ rfl A w hA
 have C2 := fun (v : Value) (w : World) (hv : FoF p0 p1 p2 p3 v w NoA) => ratio_any p0 p1 p2 p3 v NoA w (rcv_noA _) hv 1024 (by decide) (ZL_ptX h0) (ZL_ptY p0) (ZL_ptX h1) (ZL_ptY p1) (ZL_ptX h2) (ZL_ptY p2) (ZL_ptX h3) (ZL_ptY p3)
 have C3 := fun (v : Value) (w : World) (hv : PlF (ratP p0 p1 p2 p3) v w NoA) => PlTold_any _ v NoA w hv (ZL_ratP h0 h1 h2 h3)
 obtain ⟨i0,n00,s00,n01,s01,n02,s02,n03,s03,e0⟩ := encP_nine p0
 obtain ⟨i1,n10,s10,n11,s11,n12,s12,n13,s13,e1⟩ := encP_nine p1
 obtain ⟨i2,n20,s20,n21,s21,n22,s22,n23,s23,e2⟩ := encP_nine p2
 obtain ⟨i3,n30,s30,n31,s31,n32,s32,n33,s33,e3⟩ := encP_nine p3
 rw [encP4_of e0 e1 e2 e3] at C1
 rw [show (#[.bool i0,.bool n00,.string s00,.bool n01,.string s01,.bool n02,.string s02,.bool n03,.string s03] ++ #[.bool i1,.bool n10,.string s10,.bool n11,.string s11,.bool n12,.string s12,.bool n13,.string s13] ++ #[.bool i2,.bool n20,.string s20,.bool n21,.string s21,.bool n22,.string s22,.bool n23,.string s23] ++ #[.bool i3,.bool n30,.string s30,.bool n31,.string s31,.bool n32,.string s32,.bool n33,.string s33] : Array Value) = #[.bool i0,.bool n00,.string s00,.bool n01,.string s01,.bool n02,.string s02,.bool n03,.string s03,.bool i1,.bool n10,.string s10,.bool n11,.string s11,.bool n12,.string s12,.bool n13,.string s13,.bool i2,.bool n20,.string s20,.bool n21,.string s21,.bool n22,.string s22,.bool n23,.string s23,.bool i3,.bool n30,.string s30,.bool n31,.string s31,.bool n32,.string s32,.bool n33,.string s33] from by simp] at C1
 rw [e0,e1,e2,e3]
 obtain ⟨W,HV⟩ := rtbox w (.bool i0) (.bool n00) (.string s00) (.bool n01) (.string s01) (.bool n02) (.string s02) (.bool n03) (.string s03) (.bool i1) (.bool n10) (.string s10) (.bool n11) (.string s11) (.bool n12) (.string s12) (.bool n13) (.string s13) (.bool i2) (.bool n20) (.string s20) (.bool n21) (.string s21) (.bool n22) (.string s22) (.bool n23) (.string s23) (.bool i3) (.bool n30) (.string s30) (.bool n31) (.string s31) (.bool n32) (.string s32) (.bool n33) (.string s33)
 have HC1 := Lib.hid (C1 NoA W (rcv_noA _))
 have HC2 := Lib.hid C2
 obtain ⟨oi,on1,os1,on2,os2,on3,os3,on4,os4,eo⟩ := outPt_nine (ratP p0 p1 p2 p3)
 obtain ⟨oc,hoc⟩ : ∃ oc,oc = outPtC (ratP p0 p1 p2 p3) := ⟨_,rfl⟩
 rw [eo,← hoc] at C3 ⊢
 have HC3 := Lib.hid C3
 clear C1 C2 C3 eo hoc e0 e1 e2 e3 h0 h1 h2 h3 d01 d02 d03 d12 d13 d23
 go_enter Tryz.func12,Tryz.ntmps12
 go_wp2_with fail
 try simp only [Nat.add_assoc,Nat.reduceAdd]
 rw [← HV.out.1]
 refine HC1.out.mono ?_
 rintro e w1 ⟨u,rfl,hb1,hu⟩
 obtain ⟨j0,a0,b0,j1,a1,b1,j2,a2,b2,j3,a3,b3,rfl⟩ := fof_agg hu
 have ho : (w1.alloc (.cells #[.bool j0,.pointer a0,.pointer b0,.bool j1,.pointer a1,.pointer b1,.bool j2,.pointer a2,.pointer b2,.bool j3,.pointer a3,.pointer b3] 70)).heap[w1.heap.size]? = some (.cells #[.bool j0,.pointer a0,.pointer b0,.bool j1,.pointer a1,.pointer b1,.bool j2,.pointer a2,.pointer b2,.bool j3,.pointer a3,.pointer b3] 70 (0,0)) := heap_alloc_new w1 _
 have hal : Below w1.heap.size w1 (w1.alloc (.cells #[.bool j0,.pointer a0,.pointer b0,.bool j1,.pointer a1,.pointer b1,.bool j2,.pointer a2,.pointer b2,.bool j3,.pointer a3,.pointer b3] 70)) := br.alloc (Nat.le_refl _) _
 have hu := Fact.Keeps.below (FoF.keeps _ _ _ _) hal hu
 have HU := Lib.hid (And.intro hu (hb1.trans (hal.mono hb1.size)))
 clear hu hb1 hal HC1
 go_wp2_with (refine wpList_load_row rfl 70 _ rfl (w1.heap.size) rfl 70 _ (0,0) _ ho Tryz.underlying70 rfl (by kernel_rfl) ?_)
 refine (HC2.out _ _ HU.out.1).mono ?_
 rintro e w2 ⟨u,rfl,hb2,hp⟩
 have HU2 := Lib.hid (HU.out.2.trans (hb2.mono HU.out.2.size))
 have HC3' := Lib.hid (HC3.out u w2 hp)
 obtain ⟨q1,q2,rfl,_⟩ := pl_agg hp
 clear hp hb2 ho HU HC2 HC3
 go_wp2_with fail
 refine HC3'.out.mono ?_
 rintro e w3 ⟨rfl,hb3⟩
 have hbw := HU2.out.trans (hb3.mono HU2.out.size)
 obtain ⟨_,_,_,_,y0,y1,y2,y3,y4,y5,y6,y7,y8,f0,f1,f2,f3,f4,f5,f6,f7,f8⟩ := HV.out.2.2.2 w3 hbw
 have HB := Lib.hid (HV.out.2.1.trans (hbw.mono HV.out.2.1.size))
 clear hb3 hbw HU2 HC3'
 go_wp2_with fail
 refine bodyPost_ret (v := .tuple #[.agg #[.bool oi,.bool on1,.string os1,.bool on2,.string os2,.bool on3,.string os3,.bool on4,.string os4],.int .i64 oc]) (by simp [results,Tryz.results12,go_sem,y0,y1,y2,y3,y4,y5,y6,y7,y8]) rfl ⟨rfl,?_⟩
 exact set_9 HB.out (by omega)
end Go.Proofs.YtepefgkihnjjaaaGreat
namespace Go.Proofs.YtepefgkihnjjaaaGreat
open Go.RowKit Tr
theorem wpList_append_into {P : Program} (w : World) {ops : Array Oper} {rest : List Oper} {o : Oper} {a : Act} {Q : Exit → Act → World → Prop}
  (hg : o.guard = none) (s x : Operand) (t : TypeId) (hop : o.op = Op.call { callee := Callee.builtin Builtin.append,args := #[s,x],argTypes := #[t,t] })
  (e : TypeId) (i : TypeInfo) (h1 : P.underlying t = some (.slice e)) (h2 : P.info? e = some i) (size : Nat) (h4 : i.size = size)
  (b off n cap : Nat) (hs : a.eval s = .slice (some ⟨b,off,none⟩) n cap)
  (ad : Addr) (m c : Nat) (news : List Value) (hx : a.eval x = .slice (some ad) m c) (hn : news.length = m * size) (hc : ∀ j u,news[j]? = some u → w.cell? (ad.add j) = some u) (h1c : ∀ u ∈ news,u.oneCell' = true)
  (hr : n + m ≤ cap) (hspare : ∀ j,j < news.length → (w.cell? ⟨b,off + n * size + j,none⟩).isSome = true ∧ w.frozen? ⟨b,off + n * size + j,none⟩ = false)
  (hroom : wpList P ops Q rest (a.put o.dst (.slice (some ⟨b,off,none⟩) (n + m) cap)) (w.setCells b (off + n * size) news)) :
  wpList P ops Q (o :: rest) a w := by
 refine wpList_plain hg fun K hK' => ?_
 subst h4
 have hrun := run_append_room_cells (P := P) w t o.type e i h1 h2 b off n cap ad m c news hn hc h1c hr (fun j hj => (hspare j hj).1) (fun j hj => (hspare j hj).2)
 unfold Oper.wp
 simp [execOp,hop,resolve,invoke,builtin,hs,hx,hrun,Result.andThen]
 exact hK' _ _ hroom
theorem setCells_two (w : World) (b o : Nat) (x y : Value) : w.setCells b o [x,y] = (w.setCell ⟨b,o,none⟩ x).setCell ⟨b,o + 1,none⟩ y := by
 rfl
theorem encQ_inj {y z : QC} (h : encG y.re y.im = encQ z) : y = z := by
 unfold encQ encG at h
 simp only [Value.agg.injEq,Array.mk.injEq,List.cons.injEq,Value.bool.injEq,Value.string.injEq,and_true,true_and] at h
 obtain ⟨h1,h2,h3,h4,h5,h6⟩ := h
 have e1 := encF_inj h1 h2 h3
 have e2 := encF_inj h4 h5 h6
 obtain ⟨yr,yi⟩ := y
 obtain ⟨zr,zi⟩ := z
 simp only at e1 e2
 rw [e1,e2]
theorem of_parts (z : QC) (h : ShortZ z) : ∃ n1 s1 n2 s2 n3 s3 n4 s4,encQ z = .agg #[.bool n1,.string s1,.bool n2,.string s2,.bool n3,.string s3,.bool n4,.string s4] ∧
  ∀ (A : Nat → Prop) (w : World),Rcv A w → Calls Tryz.prog 104 #[.agg #[.bool n1,.string s1,.bool n2,.string s2,.bool n3,.string s3,.bool n4,.string s4]] w fun e w' => ∃ u,e = .returned (.tuple #[u,.bool true]) ∧ Below w.heap.size w w' ∧ NQ z u w' A := by
 refine ⟨_,_,_,_,_,_,_,_,rfl,fun A w hA => ?_⟩
 obtain ⟨l1,l2,l3,l4⟩ := short_size h
 have hok : GaussOk (encQ z) := ⟨z,rfl,h⟩
 refine (EOf_any _ _ _ _ _ _ _ _ l1 l2 l3 l4 A w hA true (by simp only [true_iff]; exact hok)).mono ?_
 rintro _ w' ⟨u,rfl,hb,y,hy,hv⟩
 have : y = z := encQ_inj (hv hok).symm
 subst this
 exact ⟨u,rfl,hb,hy⟩
def encTwo (z0 z1 : QC) : Array Value := match encQ z0,encQ z1 with
 | .agg a,.agg b => a ++ b
 | _,_ => #[]
theorem encTwo_of {z0 z1 : QC} {a b : Array Value} (h0 : encQ z0 = .agg a) (h1 : encQ z1 = .agg b) : encTwo z0 z1 = a ++ b := by
 unfold encTwo; rw [h0,h1]
theorem noW_4 (a b c d : Option Addr) (T : TypeId) : NoW (.cells #[.pointer a,.pointer b,.pointer c,.pointer d] T (0,0)) := by
 intro cs T fr e i k x
 cases e
 rcases i with _ | _ | _ | _ | i <;> simp
theorem info_num : (Tryz.prog.info? 66).map (·.size) = some 2 := by kernel_rfl
set_option maxRecDepth 100000 in
set_option maxHeartbeats 6400000 in
theorem opened_ok (z0 z1 : QC) (h0 : ShortZ z0) (h1 : ShortZ z1) (A : Nat → Prop) (w : World) (hA : Rcv A w) (b : Nat) (cs : Array Value) (T : TypeId) (hcs : cs = encTwo z0 z1) (hb : w.heap[b]? = some (.cells cs T (0,0))) :
  Calls Tryz.prog 63 #[.slice (some ⟨b,0,none⟩) 2 2] w fun e w' => ∃ g a0 b0 a1 b1,e = .returned (.tuple #[.slice (some ⟨g,0,none⟩) 2 2,.int .i64 0]) ∧ Below w.heap.size w w' ∧ w.heap.size ≤ g ∧ w'.heap[g]? = some (.cells #[.pointer a0,.pointer b0,.pointer a1,.pointer b1] 66 (0,0)) ∧ NQ z0 (.agg #[.pointer a0,.pointer b0]) w' (Mo A g) ∧ NQ z1 (.agg #[.pointer a1,.pointer b1]) w' (Mo A g) := by
 obtain ⟨n00,s00,n01,s01,n02,s02,n03,s03,e0,C0⟩ := of_parts z0 h0
 obtain ⟨n10,s10,n11,s11,n12,s12,n13,s13,e1,C1⟩ := of_parts z1 h1
 rw [encTwo_of e0 e1,show (#[.bool n00,.string s00,.bool n01,.string s01,.bool n02,.string s02,.bool n03,.string s03] ++ #[.bool n10,.string s10,.bool n11,.string s11,.bool n12,.string s12,.bool n13,.string s13] : Array Value) = #[.bool n00,.string s00,.bool n01,.string s01,.bool n02,.string s02,.bool n03,.string s03,.bool n10,.string s10,.bool n11,.string s11,.bool n12,.string s12,.bool n13,.string s13] from by simp] at hcs
 subst hcs
 have HC0 := Lib.hid C0
 have HC1 := Lib.hid C1
 obtain ⟨i0,hi,hz⟩ : ∃ i,Tryz.prog.info? 66 = some i ∧ i.size = 2 := by
  have := info_num
  cases h : Tryz.prog.info? 66 with
  | none => rw [h] at this; cases this
  | some i => rw [h] at this; exact ⟨i,rfl,by simpa using this⟩
 have hbs : b < w.heap.size := (Array.getElem?_eq_some_iff.1 hb).1
 have HI := Lib.hid (And.intro hi (And.intro hz (And.intro hA (And.intro hb hbs))))
 clear C0 C1 e0 e1 h0 h1 hi hz hA hb hbs
 have hmk : ∀ w,(Instr.makeSlice 107 (.int .i64 0) (.int .i64 2)).run Tryz.prog w = .ok (.slice (some ⟨w.heap.size,0,none⟩) 0 2) (w.alloc (.cells #[.pointer none,.pointer none,.pointer none,.pointer none] 66)) := fun _ => by kernel_rfl
 go_enter Tryz.func63,Tryz.ntmps63
 go_wp2_with fail
 refine wp_loop_rounds 3 ?_
 obtain ⟨w0,hw0⟩ : ∃ w0,w0 = w.alloc (.cells #[.pointer none,.pointer none,.pointer none,.pointer none] 66) := ⟨_,rfl⟩
 rw [← hw0]
 have ha : w0.heap[w.heap.size]? = some (.cells #[.pointer none,.pointer none,.pointer none,.pointer none] 66 (0,0)) := by rw [hw0]; exact heap_alloc_new w _
 have hbw : Below w.heap.size w w0 := by rw [hw0]; exact br.alloc (Nat.le_refl _) _
 have HW0 := Lib.hid (And.intro ha hbw)
 clear hw0 ha hbw hmk
 have hbk : w0.heap[b]? = some (.cells #[.bool n00,.string s00,.bool n01,.string s01,.bool n02,.string s02,.bool n03,.string s03,.bool n10,.string s10,.bool n11,.string s11,.bool n12,.string s12,.bool n13,.string s13] T (0,0)) := (HW0.out.2.block b HI.out.2.2.2.2).trans HI.out.2.2.2.1
 have x0 : w0.cell? ⟨b,0,none⟩ = some (.bool n00) := by simp [World.cell?,hbk]
 have x1 : w0.cell? ⟨b,1,none⟩ = some (.string s00) := by simp [World.cell?,hbk]
 have x2 : w0.cell? ⟨b,2,none⟩ = some (.bool n01) := by simp [World.cell?,hbk]
 have x3 : w0.cell? ⟨b,3,none⟩ = some (.string s01) := by simp [World.cell?,hbk]
 have x4 : w0.cell? ⟨b,4,none⟩ = some (.bool n02) := by simp [World.cell?,hbk]
 have x5 : w0.cell? ⟨b,5,none⟩ = some (.string s02) := by simp [World.cell?,hbk]
 have x6 : w0.cell? ⟨b,6,none⟩ = some (.bool n03) := by simp [World.cell?,hbk]
 have x7 : w0.cell? ⟨b,7,none⟩ = some (.string s03) := by simp [World.cell?,hbk]
 have hbl : b < w0.heap.size := Nat.lt_of_lt_of_le HI.out.2.2.2.2 HW0.out.2.size
 have hR : Rcv (Mo A w.heap.size) w0 := rcv_more HI.out.2.2.1 HW0.out.2 HW0.out.1 (noW_4 _ _ _ _ _)
 have HR := Lib.hid (hR.below ((Below.refl w0.heap.size w0).alloc (Nat.le_refl _) (.cells #[.bool n00,.string s00,.bool n01,.string s01,.bool n02,.string s02,.bool n03,.string s03] 27)))
 clear hbk hR
 rw [rounds_succ]
 go_wp2_with fail
 refine (HC0.out (Mo A w.heap.size) _ HR.out).mono ?_
 rintro e wa ⟨u,rfl,hba,hu⟩
 obtain ⟨a0,b0,rfl⟩ := nq_agg hu
 have hb1 : Below w0.heap.size w0 wa := (br.alloc (Nat.le_refl _) _).trans (hba.mono (by simp))
 have hga := (hb1.block _ (by have := HW0.out.2.size; have := (Array.getElem?_eq_some_iff.1 HW0.out.1).1; exact this)).trans HW0.out.1
 have hgs : w.heap.size < wa.heap.size := (Array.getElem?_eq_some_iff.1 hga).1
 have hb2 : Below wa.heap.size wa ((wa.alloc (.cells #[.pointer a0,.pointer b0] 66)).alloc (.cells #[.pointer a0,.pointer b0] 66)) := (br.alloc (Nat.le_refl _) _).alloc (by simp) _
 have hgb := (hb2.block _ hgs).trans hga
 have hc1 : ∀ j u,([.pointer a0,.pointer b0] : List Value)[j]? = some u → ((wa.alloc (.cells #[.pointer a0,.pointer b0] 66)).alloc (.cells #[.pointer a0,.pointer b0] 66)).cell? ((⟨wa.heap.size + 1,0,none⟩ : Addr).add j) = some u := by
  intro j u hj
  have hq := heap_alloc2_new wa (.cells #[.pointer a0,.pointer b0] 66) (.cells #[.pointer a0,.pointer b0] 66)
  rw [Addr.add_lit,Nat.zero_add,cell_of_row _ _ _ _ _ _ hq]
  rcases j with _ | _ | j <;> simp at hj ⊢ <;> exact hj
 have hc2 : ∀ u ∈ ([.pointer a0,.pointer b0] : List Value),u.oneCell' = true := by
  intro u hu; simp at hu; rcases hu with rfl | rfl <;> rfl
 have hc3 : ∀ j,j < ([.pointer a0,.pointer b0] : List Value).length → (((wa.alloc (.cells #[.pointer a0,.pointer b0] 66)).alloc (.cells #[.pointer a0,.pointer b0] 66)).cell? ⟨w.heap.size,0 + 0 * 2 + j,none⟩).isSome = true ∧ ((wa.alloc (.cells #[.pointer a0,.pointer b0] 66)).alloc (.cells #[.pointer a0,.pointer b0] 66)).frozen? ⟨w.heap.size,0 + 0 * 2 + j,none⟩ = false := by
  intro j hj
  rcases j with _ | _ | j
  ·simp [World.cell?,World.frozen?,hgb]
  ·simp [World.cell?,World.frozen?,hgb]
  ·simp at hj; omega
 have HL := Lib.hid (And.intro hu (And.intro hgb ((hb1.trans (hb2.mono hb1.size)))))
 have HL2 := Lib.hid hb2
 have HL3 := Lib.hid hb1
 clear hu hgb hga hb1 hb2 hba x0 x1 x2 x3 x4 x5 x6 x7 hbl HR
 go_wp2_with (at_builtin; refine wpList_append_into _ rfl _ _ 107 rfl 66 i0 Tryz.underlying107 HI.out.1 2 HI.out.2.1 w.heap.size 0 0 2 rfl ⟨wa.heap.size + 1,0,none⟩ 1 1 [.pointer a0,.pointer b0] rfl rfl hc1 hc2 (by decide) hc3 ?_)
 clear hc1 hc2 hc3
 obtain ⟨w1,hw⟩ : ∃ w1,w1 = World.setCells ((wa.alloc (.cells #[.pointer a0,.pointer b0] 66)).alloc (.cells #[.pointer a0,.pointer b0] 66)) w.heap.size (0 + 0 * 2) [.pointer a0,.pointer b0] := ⟨_,rfl⟩
 rw [← hw]
 have ha : w1.heap[w.heap.size]? = some (.cells #[.pointer a0,.pointer b0,.pointer none,.pointer none] 66 (0,0)) := by
  rw [hw,setCells_two]
  simp [World.setCell,Array.getElem?_modify,HL.out.2.1,-World.alloc_eq]
 have keep : ∀ (R : Fact) (x : Value),R.Keeps → R x wa (Mo A w.heap.size) → R x w1 (Mo A w.heap.size) := fun R x hR h => by
  rw [hw,setCells_two]
  exact keep_at hR (.inr rfl) (keep_at hR (.inr rfl) (Fact.Keeps.below hR HL2.out h))
 have hbw : Below w.heap.size w w1 := by
  rw [hw,setCells_two]
  exact ((HW0.out.2.trans (HL.out.2.2.mono HW0.out.2.size)).setCell (p := ⟨w.heap.size,_,none⟩) (Nat.le_refl _) _).setCell (p := ⟨w.heap.size,_,none⟩) (Nat.le_refl _) _
 have HF0 := Lib.hid (keep _ _ (NQ.keeps _) HL.out.1)
 have HW1 := Lib.hid (And.intro ha hbw)
 clear hw ha hbw keep HL HL2 HL3 HW0 hgs
 have hbk : w1.heap[b]? = some (.cells #[.bool n00,.string s00,.bool n01,.string s01,.bool n02,.string s02,.bool n03,.string s03,.bool n10,.string s10,.bool n11,.string s11,.bool n12,.string s12,.bool n13,.string s13] T (0,0)) := (HW1.out.2.block b HI.out.2.2.2.2).trans HI.out.2.2.2.1
 have x0 : w1.cell? ⟨b,8,none⟩ = some (.bool n10) := by simp [World.cell?,hbk]
 have x1 : w1.cell? ⟨b,9,none⟩ = some (.string s10) := by simp [World.cell?,hbk]
 have x2 : w1.cell? ⟨b,10,none⟩ = some (.bool n11) := by simp [World.cell?,hbk]
 have x3 : w1.cell? ⟨b,11,none⟩ = some (.string s11) := by simp [World.cell?,hbk]
 have x4 : w1.cell? ⟨b,12,none⟩ = some (.bool n12) := by simp [World.cell?,hbk]
 have x5 : w1.cell? ⟨b,13,none⟩ = some (.string s12) := by simp [World.cell?,hbk]
 have x6 : w1.cell? ⟨b,14,none⟩ = some (.bool n13) := by simp [World.cell?,hbk]
 have x7 : w1.cell? ⟨b,15,none⟩ = some (.string s13) := by simp [World.cell?,hbk]
 have hbl : b < w1.heap.size := Nat.lt_of_lt_of_le HI.out.2.2.2.2 HW1.out.2.size
 have hR : Rcv (Mo A w.heap.size) w1 := rcv_more HI.out.2.2.1 HW1.out.2 HW1.out.1 (noW_4 _ _ _ _ _)
 have HR := Lib.hid (hR.below ((Below.refl w1.heap.size w1).alloc (Nat.le_refl _) (.cells #[.bool n10,.string s10,.bool n11,.string s11,.bool n12,.string s12,.bool n13,.string s13] 27)))
 clear hbk hR
 rw [rounds_succ]
 go_wp2_with fail
 refine (HC1.out (Mo A w.heap.size) _ HR.out).mono ?_
 rintro e wa ⟨u,rfl,hba,hu⟩
 obtain ⟨a1,b1,rfl⟩ := nq_agg hu
 have hb1 : Below w1.heap.size w1 wa := (br.alloc (Nat.le_refl _) _).trans (hba.mono (by simp))
 have hga := (hb1.block _ (by have := HW1.out.2.size; have := (Array.getElem?_eq_some_iff.1 HW1.out.1).1; exact this)).trans HW1.out.1
 have hgs : w.heap.size < wa.heap.size := (Array.getElem?_eq_some_iff.1 hga).1
 have hb2 : Below wa.heap.size wa ((wa.alloc (.cells #[.pointer a1,.pointer b1] 66)).alloc (.cells #[.pointer a1,.pointer b1] 66)) := (br.alloc (Nat.le_refl _) _).alloc (by simp) _
 have hgb := (hb2.block _ hgs).trans hga
 have hc1 : ∀ j u,([.pointer a1,.pointer b1] : List Value)[j]? = some u → ((wa.alloc (.cells #[.pointer a1,.pointer b1] 66)).alloc (.cells #[.pointer a1,.pointer b1] 66)).cell? ((⟨wa.heap.size + 1,0,none⟩ : Addr).add j) = some u := by
  intro j u hj
  have hq := heap_alloc2_new wa (.cells #[.pointer a1,.pointer b1] 66) (.cells #[.pointer a1,.pointer b1] 66)
  rw [Addr.add_lit,Nat.zero_add,cell_of_row _ _ _ _ _ _ hq]
  rcases j with _ | _ | j <;> simp at hj ⊢ <;> exact hj
 have hc2 : ∀ u ∈ ([.pointer a1,.pointer b1] : List Value),u.oneCell' = true := by
  intro u hu; simp at hu; rcases hu with rfl | rfl <;> rfl
 have hc3 : ∀ j,j < ([.pointer a1,.pointer b1] : List Value).length → (((wa.alloc (.cells #[.pointer a1,.pointer b1] 66)).alloc (.cells #[.pointer a1,.pointer b1] 66)).cell? ⟨w.heap.size,0 + 1 * 2 + j,none⟩).isSome = true ∧ ((wa.alloc (.cells #[.pointer a1,.pointer b1] 66)).alloc (.cells #[.pointer a1,.pointer b1] 66)).frozen? ⟨w.heap.size,0 + 1 * 2 + j,none⟩ = false := by
  intro j hj
  rcases j with _ | _ | j
  ·simp [World.cell?,World.frozen?,hgb]
  ·simp [World.cell?,World.frozen?,hgb]
  ·simp at hj; omega
 have HL := Lib.hid (And.intro hu (And.intro hgb ((hb1.trans (hb2.mono hb1.size)))))
 have HL2 := Lib.hid hb2
 have HL3 := Lib.hid hb1
 clear hu hgb hga hb1 hb2 hba x0 x1 x2 x3 x4 x5 x6 x7 hbl HR
 go_wp2_with (at_builtin; refine wpList_append_into _ rfl _ _ 107 rfl 66 i0 Tryz.underlying107 HI.out.1 2 HI.out.2.1 w.heap.size 0 1 2 rfl ⟨wa.heap.size + 1,0,none⟩ 1 1 [.pointer a1,.pointer b1] rfl rfl hc1 hc2 (by decide) hc3 ?_)
 clear hc1 hc2 hc3
 obtain ⟨w2,hw⟩ : ∃ w2,w2 = World.setCells ((wa.alloc (.cells #[.pointer a1,.pointer b1] 66)).alloc (.cells #[.pointer a1,.pointer b1] 66)) w.heap.size (0 + 1 * 2) [.pointer a1,.pointer b1] := ⟨_,rfl⟩
 rw [← hw]
 have ha : w2.heap[w.heap.size]? = some (.cells #[.pointer a0,.pointer b0,.pointer a1,.pointer b1] 66 (0,0)) := by
  rw [hw,setCells_two]
  simp [World.setCell,Array.getElem?_modify,HL.out.2.1,-World.alloc_eq]
 have keep : ∀ (R : Fact) (x : Value),R.Keeps → R x wa (Mo A w.heap.size) → R x w2 (Mo A w.heap.size) := fun R x hR h => by
  rw [hw,setCells_two]
  exact keep_at hR (.inr rfl) (keep_at hR (.inr rfl) (Fact.Keeps.below hR HL2.out h))
 have hbw : Below w.heap.size w w2 := by
  rw [hw,setCells_two]
  exact ((HW1.out.2.trans (HL.out.2.2.mono HW1.out.2.size)).setCell (p := ⟨w.heap.size,_,none⟩) (Nat.le_refl _) _).setCell (p := ⟨w.heap.size,_,none⟩) (Nat.le_refl _) _
 have HF1 := Lib.hid (keep _ _ (NQ.keeps _) HL.out.1)
 have HF0 := Lib.hid (keep _ _ (NQ.keeps _) (Fact.Keeps.below (NQ.keeps _) HL3.out HF0.out))
 have HW2 := Lib.hid (And.intro ha hbw)
 clear hw ha hbw keep HL HL2 HL3 HW1 hgs
 rw [rounds_succ]
 go_wp2_with fail
 go_ret2
 exact ⟨_,_,_,_,_,rfl,HW2.out.2,Nat.le_refl _,HW2.out.1,HF0.out,HF1.out⟩
end Go.Proofs.YtepefgkihnjjaaaGreat
