/- Laws for the walk. -/
import Derived.Test.YtepefgkihnjjaaaGreatZzz
import Derived.Test.YtepefgkihnjjaaaGreatZaw
set_option linter.unusedVariables false
namespace Go.Proofs.YtepefgkihnjjaaaGreat
open Go.RowKit Tr
theorem encP_nine (p : Pt) : ∃ i n1 s1 n2 s2 n3 s3 n4 s4,encP p = .agg #[.bool i,.bool n1,.string s1,.bool n2,.string s2,.bool n3,.string s3,.bool n4,.string s4] := by
 cases p
 ·exact ⟨_,_,_,_,_,_,_,_,_,rfl⟩
 ·exact ⟨_,_,_,_,_,_,_,_,_,rfl⟩
theorem run_eql_enc {p q : Pt} {i n1 n2 n3 n4 j m1 m2 m3 m4 : Bool} {s1 s2 s3 s4 t1 t2 t3 t4 : ByteArray} (hp : encP p = .agg #[.bool i,.bool n1,.string s1,.bool n2,.string s2,.bool n3,.string s3,.bool n4,.string s4]) (hq : encP q = .agg #[.bool j,.bool m1,.string t1,.bool m2,.string t2,.bool m3,.string t3,.bool m4,.string t4]) (r : Bool) (hr : r = true ↔ p = q) (w : World) :
  (binOp .eql 29 (.agg #[.bool i,.bool n1,.string s1,.bool n2,.string s2,.bool n3,.string s3,.bool n4,.string s4]) (.agg #[.bool j,.bool m1,.string t1,.bool m2,.string t2,.bool m3,.string t3,.bool m4,.string t4])).run Tryz.prog w = .ok (.bool r) w :=
 run_eql_pt w i n1 n2 n3 n4 j m1 m2 m3 m4 s1 s2 s3 s4 t1 t2 t3 t4 r (by rw [← hp,← hq,hr]; exact ⟨fun h => by rw [h],encP_inj⟩)
set_option maxRecDepth 100000 in
set_option maxHeartbeats 12800000 in
theorem most_one (p0 p1 p2 p3 : Pt) (d01 : p0 ≠ p1) (d02 : p0 ≠ p2) (d03 : p0 ≠ p3) (d12 : p1 ≠ p2) (d13 : p1 ≠ p3) (d23 : p2 ≠ p3) (v : Value) (hv : v = encP4 p0 p1 p2 p3) (w : World) :
  Calls Tryz.prog 59 #[v] w fun e w' => e = .returned (.int .i64 1) ∧ Below w.heap.size w w' := by
 obtain ⟨i0,n00,s00,n01,s01,n02,s02,n03,s03,e0⟩ := encP_nine p0
 obtain ⟨i1,n10,s10,n11,s11,n12,s12,n13,s13,e1⟩ := encP_nine p1
 obtain ⟨i2,n20,s20,n21,s21,n22,s22,n23,s23,e2⟩ := encP_nine p2
 obtain ⟨i3,n30,s30,n31,s31,n32,s32,n33,s33,e3⟩ := encP_nine p3
 rw [encP4_of e0 e1 e2 e3] at hv
 rw [show (#[.bool i0,.bool n00,.string s00,.bool n01,.string s01,.bool n02,.string s02,.bool n03,.string s03] ++ #[.bool i1,.bool n10,.string s10,.bool n11,.string s11,.bool n12,.string s12,.bool n13,.string s13] ++ #[.bool i2,.bool n20,.string s20,.bool n21,.string s21,.bool n22,.string s22,.bool n23,.string s23] ++ #[.bool i3,.bool n30,.string s30,.bool n31,.string s31,.bool n32,.string s32,.bool n33,.string s33] : Array Value) = #[.bool i0,.bool n00,.string s00,.bool n01,.string s01,.bool n02,.string s02,.bool n03,.string s03,.bool i1,.bool n10,.string s10,.bool n11,.string s11,.bool n12,.string s12,.bool n13,.string s13,.bool i2,.bool n20,.string s20,.bool n21,.string s21,.bool n22,.string s22,.bool n23,.string s23,.bool i3,.bool n30,.string s30,.bool n31,.string s31,.bool n32,.string s32,.bool n33,.string s33] from by simp] at hv
 subst hv
 have HQ00 := Lib.hid (fun w => run_eql_enc e0 e0 true (by simp) w)
 have HQ01 := Lib.hid (fun w => run_eql_enc e0 e1 false (by simp [d01]) w)
 have HQ02 := Lib.hid (fun w => run_eql_enc e0 e2 false (by simp [d02]) w)
 have HQ03 := Lib.hid (fun w => run_eql_enc e0 e3 false (by simp [d03]) w)
 have HQ10 := Lib.hid (fun w => run_eql_enc e1 e0 false (by simp [Ne.symm d01]) w)
 have HQ11 := Lib.hid (fun w => run_eql_enc e1 e1 true (by simp) w)
 have HQ12 := Lib.hid (fun w => run_eql_enc e1 e2 false (by simp [d12]) w)
 have HQ13 := Lib.hid (fun w => run_eql_enc e1 e3 false (by simp [d13]) w)
 have HQ20 := Lib.hid (fun w => run_eql_enc e2 e0 false (by simp [Ne.symm d02]) w)
 have HQ21 := Lib.hid (fun w => run_eql_enc e2 e1 false (by simp [Ne.symm d12]) w)
 have HQ22 := Lib.hid (fun w => run_eql_enc e2 e2 true (by simp) w)
 have HQ23 := Lib.hid (fun w => run_eql_enc e2 e3 false (by simp [d23]) w)
 have HQ30 := Lib.hid (fun w => run_eql_enc e3 e0 false (by simp [Ne.symm d03]) w)
 have HQ31 := Lib.hid (fun w => run_eql_enc e3 e1 false (by simp [Ne.symm d13]) w)
 have HQ32 := Lib.hid (fun w => run_eql_enc e3 e2 false (by simp [Ne.symm d23]) w)
 have HQ33 := Lib.hid (fun w => run_eql_enc e3 e3 true (by simp) w)
 clear e0 e1 e2 e3 d01 d02 d03 d12 d13 d23
 obtain ⟨W,hW⟩ : ∃ W,W = w.alloc (.cells #[.bool i0,.bool n00,.string s00,.bool n01,.string s01,.bool n02,.string s02,.bool n03,.string s03,.bool i1,.bool n10,.string s10,.bool n11,.string s11,.bool n12,.string s12,.bool n13,.string s13,.bool i2,.bool n20,.string s20,.bool n21,.string s21,.bool n22,.string s22,.bool n23,.string s23,.bool i3,.bool n30,.string s30,.bool n31,.string s31,.bool n32,.string s32,.bool n33,.string s33] 73) := ⟨_,rfl⟩
 have hg : W.heap[w.heap.size]? = some (.cells #[.bool i0,.bool n00,.string s00,.bool n01,.string s01,.bool n02,.string s02,.bool n03,.string s03,.bool i1,.bool n10,.string s10,.bool n11,.string s11,.bool n12,.string s12,.bool n13,.string s13,.bool i2,.bool n20,.string s20,.bool n21,.string s21,.bool n22,.string s22,.bool n23,.string s23,.bool i3,.bool n30,.string s30,.bool n31,.string s31,.bool n32,.string s32,.bool n33,.string s33] 73 (0,0)) := by rw [hW]; exact heap_alloc_new w _
 have hgc : (w.alloc (.cells #[.bool i0,.bool n00,.string s00,.bool n01,.string s01,.bool n02,.string s02,.bool n03,.string s03,.bool i1,.bool n10,.string s10,.bool n11,.string s11,.bool n12,.string s12,.bool n13,.string s13,.bool i2,.bool n20,.string s20,.bool n21,.string s21,.bool n22,.string s22,.bool n23,.string s23,.bool i3,.bool n30,.string s30,.bool n31,.string s31,.bool n32,.string s32,.bool n33,.string s33] 73)).heap[w.heap.size]? = some (.cells #[.bool i0,.bool n00,.string s00,.bool n01,.string s01,.bool n02,.string s02,.bool n03,.string s03,.bool i1,.bool n10,.string s10,.bool n11,.string s11,.bool n12,.string s12,.bool n13,.string s13,.bool i2,.bool n20,.string s20,.bool n21,.string s21,.bool n22,.string s22,.bool n23,.string s23,.bool i3,.bool n30,.string s30,.bool n31,.string s31,.bool n32,.string s32,.bool n33,.string s33] 73 (0,0)) := heap_alloc_new w _
 have hb0 : Below w.heap.size w W := by rw [hW]; exact br.alloc (Nat.le_refl _) _
 have hs0 : w.heap.size < W.heap.size := by rw [hW]; simp
 have HW := Lib.hid (And.intro hW (And.intro hb0 (And.intro hg hs0)))
 clear hW hb0 hg hs0
 go_enter Tryz.func59,Tryz.ntmps59
 go_wp2_with (first
  | (refine Go.Great.wpList_boxTo rfl 73 _ rfl (some 1) rfl w.heap.size rfl _ rfl ?_)
  | (refine wpList_load_row rfl 73 _ rfl (w.heap.size) rfl 73 _ (0,0) _ hgc Tryz.underlying73 rfl (by kernel_rfl) ?_))
 rw [← HW.out.1]
 clear hgc
 obtain ⟨u0,hu0⟩ : ∃ u0,u0 = W := ⟨_,rfl⟩
 have HU0 := Lib.hid (show Below W.heap.size W u0 by rw [hu0]; exact Below.refl _ _)
 rw [← hu0]
 clear hu0
 refine wp_loop_rounds 5 ?_
 have ix : ∀ w,(Instr.index 73 (.agg #[.bool i0,.bool n00,.string s00,.bool n01,.string s01,.bool n02,.string s02,.bool n03,.string s03,.bool i1,.bool n10,.string s10,.bool n11,.string s11,.bool n12,.string s12,.bool n13,.string s13,.bool i2,.bool n20,.string s20,.bool n21,.string s21,.bool n22,.string s22,.bool n23,.string s23,.bool i3,.bool n30,.string s30,.bool n31,.string s31,.bool n32,.string s32,.bool n33,.string s33]) (.int .i64 0)).run Tryz.prog w = .ok (.agg #[.bool i0,.bool n00,.string s00,.bool n01,.string s01,.bool n02,.string s02,.bool n03,.string s03]) w := fun _ => by kernel_rfl
 obtain ⟨U0,hU⟩ : ∃ U0,U0 = u0.alloc (.cells #[.bool i0,.bool n00,.string s00,.bool n01,.string s01,.bool n02,.string s02,.bool n03,.string s03] 29) := ⟨_,rfl⟩
 have hbU : Below u0.heap.size u0 U0 := by rw [hU]; exact br.alloc (Nat.le_refl _) _
 have hbW := HU0.out.trans (hbU.mono HU0.out.size)
 have hgU : (u0.alloc (.cells #[.bool i0,.bool n00,.string s00,.bool n01,.string s01,.bool n02,.string s02,.bool n03,.string s03] 29)).heap[w.heap.size]? = some (.cells #[.bool i0,.bool n00,.string s00,.bool n01,.string s01,.bool n02,.string s02,.bool n03,.string s03,.bool i1,.bool n10,.string s10,.bool n11,.string s11,.bool n12,.string s12,.bool n13,.string s13,.bool i2,.bool n20,.string s20,.bool n21,.string s21,.bool n22,.string s22,.bool n23,.string s23,.bool i3,.bool n30,.string s30,.bool n31,.string s31,.bool n32,.string s32,.bool n33,.string s33] 73 (0,0)) := by rw [← hU]; exact (hbW.block _ HW.out.2.2.2).trans HW.out.2.2.1
 have HN0 := Lib.hid (And.intro (fun w1 (h : Below U0.heap.size U0 w1) => new_nine u0 _ _ _ _ _ _ _ _ _ _ (w1 := w1) (by rw [← hU]; exact h)) (And.intro hbW (show u0.heap.size < U0.heap.size by rw [hU]; simp)))
 rw [rounds_succ]
 go_wp2_with (refine wpList_load_row rfl 73 _ rfl (w.heap.size) rfl 73 _ (0,0) _ hgU Tryz.underlying73 rfl (by kernel_rfl) ?_)
 rw [← hU]
 clear hgU hU ix hbU hbW
 obtain ⟨v0,hv0⟩ : ∃ v0,v0 = U0 := ⟨_,rfl⟩
 have HV0 := Lib.hid (show Below U0.heap.size U0 v0 by rw [hv0]; exact Below.refl _ _)
 rw [← hv0]
 clear hv0
 refine wp_loop_rounds 5 ?_
 have ix : ∀ w,(Instr.index 73 (.agg #[.bool i0,.bool n00,.string s00,.bool n01,.string s01,.bool n02,.string s02,.bool n03,.string s03,.bool i1,.bool n10,.string s10,.bool n11,.string s11,.bool n12,.string s12,.bool n13,.string s13,.bool i2,.bool n20,.string s20,.bool n21,.string s21,.bool n22,.string s22,.bool n23,.string s23,.bool i3,.bool n30,.string s30,.bool n31,.string s31,.bool n32,.string s32,.bool n33,.string s33]) (.int .i64 0)).run Tryz.prog w = .ok (.agg #[.bool i0,.bool n00,.string s00,.bool n01,.string s01,.bool n02,.string s02,.bool n03,.string s03]) w := fun _ => by kernel_rfl
 have he := HQ00.out
 obtain ⟨⟨x0,x1,x2,x3,x4,x5,x6,x7,x8⟩,_⟩ := HN0.out.1 v0 HV0.out
 have hx : u0.heap.size < v0.heap.size := by have h1 := HN0.out.2.2; have h2 := HV0.out.size; omega
 rw [rounds_succ]
 go_wp2_with fail
 obtain ⟨v1,hv⟩ : ∃ v1,v1 = v0.alloc (.cells #[.bool i0,.bool n00,.string s00,.bool n01,.string s01,.bool n02,.string s02,.bool n03,.string s03] 29) := ⟨_,rfl⟩
 rw [← hv]
 have HV1 := Lib.hid (show Below U0.heap.size U0 v1 by rw [hv]; exact HV0.out.alloc HV0.out.size _)
 clear hv HV0 ix he x0 x1 x2 x3 x4 x5 x6 x7 x8 hx
 have ix : ∀ w,(Instr.index 73 (.agg #[.bool i0,.bool n00,.string s00,.bool n01,.string s01,.bool n02,.string s02,.bool n03,.string s03,.bool i1,.bool n10,.string s10,.bool n11,.string s11,.bool n12,.string s12,.bool n13,.string s13,.bool i2,.bool n20,.string s20,.bool n21,.string s21,.bool n22,.string s22,.bool n23,.string s23,.bool i3,.bool n30,.string s30,.bool n31,.string s31,.bool n32,.string s32,.bool n33,.string s33]) (.int .i64 1)).run Tryz.prog w = .ok (.agg #[.bool i1,.bool n10,.string s10,.bool n11,.string s11,.bool n12,.string s12,.bool n13,.string s13]) w := fun _ => by kernel_rfl
 have he := HQ01.out
 obtain ⟨⟨x0,x1,x2,x3,x4,x5,x6,x7,x8⟩,_⟩ := HN0.out.1 v1 HV1.out
 have hx : u0.heap.size < v1.heap.size := by have h1 := HN0.out.2.2; have h2 := HV1.out.size; omega
 rw [rounds_succ]
 go_wp2_with fail
 obtain ⟨v2,hv⟩ : ∃ v2,v2 = v1.alloc (.cells #[.bool i1,.bool n10,.string s10,.bool n11,.string s11,.bool n12,.string s12,.bool n13,.string s13] 29) := ⟨_,rfl⟩
 rw [← hv]
 have HV2 := Lib.hid (show Below U0.heap.size U0 v2 by rw [hv]; exact HV1.out.alloc HV1.out.size _)
 clear hv HV1 ix he x0 x1 x2 x3 x4 x5 x6 x7 x8 hx
 have ix : ∀ w,(Instr.index 73 (.agg #[.bool i0,.bool n00,.string s00,.bool n01,.string s01,.bool n02,.string s02,.bool n03,.string s03,.bool i1,.bool n10,.string s10,.bool n11,.string s11,.bool n12,.string s12,.bool n13,.string s13,.bool i2,.bool n20,.string s20,.bool n21,.string s21,.bool n22,.string s22,.bool n23,.string s23,.bool i3,.bool n30,.string s30,.bool n31,.string s31,.bool n32,.string s32,.bool n33,.string s33]) (.int .i64 2)).run Tryz.prog w = .ok (.agg #[.bool i2,.bool n20,.string s20,.bool n21,.string s21,.bool n22,.string s22,.bool n23,.string s23]) w := fun _ => by kernel_rfl
 have he := HQ02.out
 obtain ⟨⟨x0,x1,x2,x3,x4,x5,x6,x7,x8⟩,_⟩ := HN0.out.1 v2 HV2.out
 have hx : u0.heap.size < v2.heap.size := by have h1 := HN0.out.2.2; have h2 := HV2.out.size; omega
 rw [rounds_succ]
 go_wp2_with fail
 obtain ⟨v3,hv⟩ : ∃ v3,v3 = v2.alloc (.cells #[.bool i2,.bool n20,.string s20,.bool n21,.string s21,.bool n22,.string s22,.bool n23,.string s23] 29) := ⟨_,rfl⟩
 rw [← hv]
 have HV3 := Lib.hid (show Below U0.heap.size U0 v3 by rw [hv]; exact HV2.out.alloc HV2.out.size _)
 clear hv HV2 ix he x0 x1 x2 x3 x4 x5 x6 x7 x8 hx
 have ix : ∀ w,(Instr.index 73 (.agg #[.bool i0,.bool n00,.string s00,.bool n01,.string s01,.bool n02,.string s02,.bool n03,.string s03,.bool i1,.bool n10,.string s10,.bool n11,.string s11,.bool n12,.string s12,.bool n13,.string s13,.bool i2,.bool n20,.string s20,.bool n21,.string s21,.bool n22,.string s22,.bool n23,.string s23,.bool i3,.bool n30,.string s30,.bool n31,.string s31,.bool n32,.string s32,.bool n33,.string s33]) (.int .i64 3)).run Tryz.prog w = .ok (.agg #[.bool i3,.bool n30,.string s30,.bool n31,.string s31,.bool n32,.string s32,.bool n33,.string s33]) w := fun _ => by kernel_rfl
 have he := HQ03.out
 obtain ⟨⟨x0,x1,x2,x3,x4,x5,x6,x7,x8⟩,_⟩ := HN0.out.1 v3 HV3.out
 have hx : u0.heap.size < v3.heap.size := by have h1 := HN0.out.2.2; have h2 := HV3.out.size; omega
 rw [rounds_succ]
 go_wp2_with fail
 obtain ⟨v4,hv⟩ : ∃ v4,v4 = v3.alloc (.cells #[.bool i3,.bool n30,.string s30,.bool n31,.string s31,.bool n32,.string s32,.bool n33,.string s33] 29) := ⟨_,rfl⟩
 rw [← hv]
 have HV4 := Lib.hid (show Below U0.heap.size U0 v4 by rw [hv]; exact HV3.out.alloc HV3.out.size _)
 clear hv HV3 ix he x0 x1 x2 x3 x4 x5 x6 x7 x8 hx
 rw [rounds_succ]
 go_wp2_with fail
 have HU1 := Lib.hid (HN0.out.2.1.trans (HV4.out.mono HN0.out.2.1.size))
 obtain ⟨u1,hu⟩ : ∃ u1,u1 = v4 := ⟨_,rfl⟩
 rw [← hu] at HU1 ⊢
 clear hu HV4 HN0 HU0
 have ix : ∀ w,(Instr.index 73 (.agg #[.bool i0,.bool n00,.string s00,.bool n01,.string s01,.bool n02,.string s02,.bool n03,.string s03,.bool i1,.bool n10,.string s10,.bool n11,.string s11,.bool n12,.string s12,.bool n13,.string s13,.bool i2,.bool n20,.string s20,.bool n21,.string s21,.bool n22,.string s22,.bool n23,.string s23,.bool i3,.bool n30,.string s30,.bool n31,.string s31,.bool n32,.string s32,.bool n33,.string s33]) (.int .i64 1)).run Tryz.prog w = .ok (.agg #[.bool i1,.bool n10,.string s10,.bool n11,.string s11,.bool n12,.string s12,.bool n13,.string s13]) w := fun _ => by kernel_rfl
 obtain ⟨U1,hU⟩ : ∃ U1,U1 = u1.alloc (.cells #[.bool i1,.bool n10,.string s10,.bool n11,.string s11,.bool n12,.string s12,.bool n13,.string s13] 29) := ⟨_,rfl⟩
 have hbU : Below u1.heap.size u1 U1 := by rw [hU]; exact br.alloc (Nat.le_refl _) _
 have hbW := HU1.out.trans (hbU.mono HU1.out.size)
 have hgU : (u1.alloc (.cells #[.bool i1,.bool n10,.string s10,.bool n11,.string s11,.bool n12,.string s12,.bool n13,.string s13] 29)).heap[w.heap.size]? = some (.cells #[.bool i0,.bool n00,.string s00,.bool n01,.string s01,.bool n02,.string s02,.bool n03,.string s03,.bool i1,.bool n10,.string s10,.bool n11,.string s11,.bool n12,.string s12,.bool n13,.string s13,.bool i2,.bool n20,.string s20,.bool n21,.string s21,.bool n22,.string s22,.bool n23,.string s23,.bool i3,.bool n30,.string s30,.bool n31,.string s31,.bool n32,.string s32,.bool n33,.string s33] 73 (0,0)) := by rw [← hU]; exact (hbW.block _ HW.out.2.2.2).trans HW.out.2.2.1
 have HN1 := Lib.hid (And.intro (fun w1 (h : Below U1.heap.size U1 w1) => new_nine u1 _ _ _ _ _ _ _ _ _ _ (w1 := w1) (by rw [← hU]; exact h)) (And.intro hbW (show u1.heap.size < U1.heap.size by rw [hU]; simp)))
 rw [rounds_succ]
 go_wp2_with (refine wpList_load_row rfl 73 _ rfl (w.heap.size) rfl 73 _ (0,0) _ hgU Tryz.underlying73 rfl (by kernel_rfl) ?_)
 rw [← hU]
 clear hgU hU ix hbU hbW
 obtain ⟨v0,hv0⟩ : ∃ v0,v0 = U1 := ⟨_,rfl⟩
 have HV0 := Lib.hid (show Below U1.heap.size U1 v0 by rw [hv0]; exact Below.refl _ _)
 rw [← hv0]
 clear hv0
 refine wp_loop_rounds 5 ?_
 have ix : ∀ w,(Instr.index 73 (.agg #[.bool i0,.bool n00,.string s00,.bool n01,.string s01,.bool n02,.string s02,.bool n03,.string s03,.bool i1,.bool n10,.string s10,.bool n11,.string s11,.bool n12,.string s12,.bool n13,.string s13,.bool i2,.bool n20,.string s20,.bool n21,.string s21,.bool n22,.string s22,.bool n23,.string s23,.bool i3,.bool n30,.string s30,.bool n31,.string s31,.bool n32,.string s32,.bool n33,.string s33]) (.int .i64 0)).run Tryz.prog w = .ok (.agg #[.bool i0,.bool n00,.string s00,.bool n01,.string s01,.bool n02,.string s02,.bool n03,.string s03]) w := fun _ => by kernel_rfl
 have he := HQ10.out
 obtain ⟨⟨x0,x1,x2,x3,x4,x5,x6,x7,x8⟩,_⟩ := HN1.out.1 v0 HV0.out
 have hx : u1.heap.size < v0.heap.size := by have h1 := HN1.out.2.2; have h2 := HV0.out.size; omega
 rw [rounds_succ]
 go_wp2_with fail
 obtain ⟨v1,hv⟩ : ∃ v1,v1 = v0.alloc (.cells #[.bool i0,.bool n00,.string s00,.bool n01,.string s01,.bool n02,.string s02,.bool n03,.string s03] 29) := ⟨_,rfl⟩
 rw [← hv]
 have HV1 := Lib.hid (show Below U1.heap.size U1 v1 by rw [hv]; exact HV0.out.alloc HV0.out.size _)
 clear hv HV0 ix he x0 x1 x2 x3 x4 x5 x6 x7 x8 hx
 have ix : ∀ w,(Instr.index 73 (.agg #[.bool i0,.bool n00,.string s00,.bool n01,.string s01,.bool n02,.string s02,.bool n03,.string s03,.bool i1,.bool n10,.string s10,.bool n11,.string s11,.bool n12,.string s12,.bool n13,.string s13,.bool i2,.bool n20,.string s20,.bool n21,.string s21,.bool n22,.string s22,.bool n23,.string s23,.bool i3,.bool n30,.string s30,.bool n31,.string s31,.bool n32,.string s32,.bool n33,.string s33]) (.int .i64 1)).run Tryz.prog w = .ok (.agg #[.bool i1,.bool n10,.string s10,.bool n11,.string s11,.bool n12,.string s12,.bool n13,.string s13]) w := fun _ => by kernel_rfl
 have he := HQ11.out
 obtain ⟨⟨x0,x1,x2,x3,x4,x5,x6,x7,x8⟩,_⟩ := HN1.out.1 v1 HV1.out
 have hx : u1.heap.size < v1.heap.size := by have h1 := HN1.out.2.2; have h2 := HV1.out.size; omega
 rw [rounds_succ]
 go_wp2_with fail
 obtain ⟨v2,hv⟩ : ∃ v2,v2 = v1.alloc (.cells #[.bool i1,.bool n10,.string s10,.bool n11,.string s11,.bool n12,.string s12,.bool n13,.string s13] 29) := ⟨_,rfl⟩
 rw [← hv]
 have HV2 := Lib.hid (show Below U1.heap.size U1 v2 by rw [hv]; exact HV1.out.alloc HV1.out.size _)
 clear hv HV1 ix he x0 x1 x2 x3 x4 x5 x6 x7 x8 hx
 have ix : ∀ w,(Instr.index 73 (.agg #[.bool i0,.bool n00,.string s00,.bool n01,.string s01,.bool n02,.string s02,.bool n03,.string s03,.bool i1,.bool n10,.string s10,.bool n11,.string s11,.bool n12,.string s12,.bool n13,.string s13,.bool i2,.bool n20,.string s20,.bool n21,.string s21,.bool n22,.string s22,.bool n23,.string s23,.bool i3,.bool n30,.string s30,.bool n31,.string s31,.bool n32,.string s32,.bool n33,.string s33]) (.int .i64 2)).run Tryz.prog w = .ok (.agg #[.bool i2,.bool n20,.string s20,.bool n21,.string s21,.bool n22,.string s22,.bool n23,.string s23]) w := fun _ => by kernel_rfl
 have he := HQ12.out
 obtain ⟨⟨x0,x1,x2,x3,x4,x5,x6,x7,x8⟩,_⟩ := HN1.out.1 v2 HV2.out
 have hx : u1.heap.size < v2.heap.size := by have h1 := HN1.out.2.2; have h2 := HV2.out.size; omega
 rw [rounds_succ]
 go_wp2_with fail
 obtain ⟨v3,hv⟩ : ∃ v3,v3 = v2.alloc (.cells #[.bool i2,.bool n20,.string s20,.bool n21,.string s21,.bool n22,.string s22,.bool n23,.string s23] 29) := ⟨_,rfl⟩
 rw [← hv]
 have HV3 := Lib.hid (show Below U1.heap.size U1 v3 by rw [hv]; exact HV2.out.alloc HV2.out.size _)
 clear hv HV2 ix he x0 x1 x2 x3 x4 x5 x6 x7 x8 hx
 have ix : ∀ w,(Instr.index 73 (.agg #[.bool i0,.bool n00,.string s00,.bool n01,.string s01,.bool n02,.string s02,.bool n03,.string s03,.bool i1,.bool n10,.string s10,.bool n11,.string s11,.bool n12,.string s12,.bool n13,.string s13,.bool i2,.bool n20,.string s20,.bool n21,.string s21,.bool n22,.string s22,.bool n23,.string s23,.bool i3,.bool n30,.string s30,.bool n31,.string s31,.bool n32,.string s32,.bool n33,.string s33]) (.int .i64 3)).run Tryz.prog w = .ok (.agg #[.bool i3,.bool n30,.string s30,.bool n31,.string s31,.bool n32,.string s32,.bool n33,.string s33]) w := fun _ => by kernel_rfl
 have he := HQ13.out
 obtain ⟨⟨x0,x1,x2,x3,x4,x5,x6,x7,x8⟩,_⟩ := HN1.out.1 v3 HV3.out
 have hx : u1.heap.size < v3.heap.size := by have h1 := HN1.out.2.2; have h2 := HV3.out.size; omega
 rw [rounds_succ]
 go_wp2_with fail
 obtain ⟨v4,hv⟩ : ∃ v4,v4 = v3.alloc (.cells #[.bool i3,.bool n30,.string s30,.bool n31,.string s31,.bool n32,.string s32,.bool n33,.string s33] 29) := ⟨_,rfl⟩
 rw [← hv]
 have HV4 := Lib.hid (show Below U1.heap.size U1 v4 by rw [hv]; exact HV3.out.alloc HV3.out.size _)
 clear hv HV3 ix he x0 x1 x2 x3 x4 x5 x6 x7 x8 hx
 rw [rounds_succ]
 go_wp2_with fail
 have HU2 := Lib.hid (HN1.out.2.1.trans (HV4.out.mono HN1.out.2.1.size))
 obtain ⟨u2,hu⟩ : ∃ u2,u2 = v4 := ⟨_,rfl⟩
 rw [← hu] at HU2 ⊢
 clear hu HV4 HN1 HU1
 have ix : ∀ w,(Instr.index 73 (.agg #[.bool i0,.bool n00,.string s00,.bool n01,.string s01,.bool n02,.string s02,.bool n03,.string s03,.bool i1,.bool n10,.string s10,.bool n11,.string s11,.bool n12,.string s12,.bool n13,.string s13,.bool i2,.bool n20,.string s20,.bool n21,.string s21,.bool n22,.string s22,.bool n23,.string s23,.bool i3,.bool n30,.string s30,.bool n31,.string s31,.bool n32,.string s32,.bool n33,.string s33]) (.int .i64 2)).run Tryz.prog w = .ok (.agg #[.bool i2,.bool n20,.string s20,.bool n21,.string s21,.bool n22,.string s22,.bool n23,.string s23]) w := fun _ => by kernel_rfl
 obtain ⟨U2,hU⟩ : ∃ U2,U2 = u2.alloc (.cells #[.bool i2,.bool n20,.string s20,.bool n21,.string s21,.bool n22,.string s22,.bool n23,.string s23] 29) := ⟨_,rfl⟩
 have hbU : Below u2.heap.size u2 U2 := by rw [hU]; exact br.alloc (Nat.le_refl _) _
 have hbW := HU2.out.trans (hbU.mono HU2.out.size)
 have hgU : (u2.alloc (.cells #[.bool i2,.bool n20,.string s20,.bool n21,.string s21,.bool n22,.string s22,.bool n23,.string s23] 29)).heap[w.heap.size]? = some (.cells #[.bool i0,.bool n00,.string s00,.bool n01,.string s01,.bool n02,.string s02,.bool n03,.string s03,.bool i1,.bool n10,.string s10,.bool n11,.string s11,.bool n12,.string s12,.bool n13,.string s13,.bool i2,.bool n20,.string s20,.bool n21,.string s21,.bool n22,.string s22,.bool n23,.string s23,.bool i3,.bool n30,.string s30,.bool n31,.string s31,.bool n32,.string s32,.bool n33,.string s33] 73 (0,0)) := by rw [← hU]; exact (hbW.block _ HW.out.2.2.2).trans HW.out.2.2.1
 have HN2 := Lib.hid (And.intro (fun w1 (h : Below U2.heap.size U2 w1) => new_nine u2 _ _ _ _ _ _ _ _ _ _ (w1 := w1) (by rw [← hU]; exact h)) (And.intro hbW (show u2.heap.size < U2.heap.size by rw [hU]; simp)))
 rw [rounds_succ]
 go_wp2_with (refine wpList_load_row rfl 73 _ rfl (w.heap.size) rfl 73 _ (0,0) _ hgU Tryz.underlying73 rfl (by kernel_rfl) ?_)
 rw [← hU]
 clear hgU hU ix hbU hbW
 obtain ⟨v0,hv0⟩ : ∃ v0,v0 = U2 := ⟨_,rfl⟩
 have HV0 := Lib.hid (show Below U2.heap.size U2 v0 by rw [hv0]; exact Below.refl _ _)
 rw [← hv0]
 clear hv0
 refine wp_loop_rounds 5 ?_
 have ix : ∀ w,(Instr.index 73 (.agg #[.bool i0,.bool n00,.string s00,.bool n01,.string s01,.bool n02,.string s02,.bool n03,.string s03,.bool i1,.bool n10,.string s10,.bool n11,.string s11,.bool n12,.string s12,.bool n13,.string s13,.bool i2,.bool n20,.string s20,.bool n21,.string s21,.bool n22,.string s22,.bool n23,.string s23,.bool i3,.bool n30,.string s30,.bool n31,.string s31,.bool n32,.string s32,.bool n33,.string s33]) (.int .i64 0)).run Tryz.prog w = .ok (.agg #[.bool i0,.bool n00,.string s00,.bool n01,.string s01,.bool n02,.string s02,.bool n03,.string s03]) w := fun _ => by kernel_rfl
 have he := HQ20.out
 obtain ⟨⟨x0,x1,x2,x3,x4,x5,x6,x7,x8⟩,_⟩ := HN2.out.1 v0 HV0.out
 have hx : u2.heap.size < v0.heap.size := by have h1 := HN2.out.2.2; have h2 := HV0.out.size; omega
 rw [rounds_succ]
 go_wp2_with fail
 obtain ⟨v1,hv⟩ : ∃ v1,v1 = v0.alloc (.cells #[.bool i0,.bool n00,.string s00,.bool n01,.string s01,.bool n02,.string s02,.bool n03,.string s03] 29) := ⟨_,rfl⟩
 rw [← hv]
 have HV1 := Lib.hid (show Below U2.heap.size U2 v1 by rw [hv]; exact HV0.out.alloc HV0.out.size _)
 clear hv HV0 ix he x0 x1 x2 x3 x4 x5 x6 x7 x8 hx
 have ix : ∀ w,(Instr.index 73 (.agg #[.bool i0,.bool n00,.string s00,.bool n01,.string s01,.bool n02,.string s02,.bool n03,.string s03,.bool i1,.bool n10,.string s10,.bool n11,.string s11,.bool n12,.string s12,.bool n13,.string s13,.bool i2,.bool n20,.string s20,.bool n21,.string s21,.bool n22,.string s22,.bool n23,.string s23,.bool i3,.bool n30,.string s30,.bool n31,.string s31,.bool n32,.string s32,.bool n33,.string s33]) (.int .i64 1)).run Tryz.prog w = .ok (.agg #[.bool i1,.bool n10,.string s10,.bool n11,.string s11,.bool n12,.string s12,.bool n13,.string s13]) w := fun _ => by kernel_rfl
 have he := HQ21.out
 obtain ⟨⟨x0,x1,x2,x3,x4,x5,x6,x7,x8⟩,_⟩ := HN2.out.1 v1 HV1.out
 have hx : u2.heap.size < v1.heap.size := by have h1 := HN2.out.2.2; have h2 := HV1.out.size; omega
 rw [rounds_succ]
 go_wp2_with fail
 obtain ⟨v2,hv⟩ : ∃ v2,v2 = v1.alloc (.cells #[.bool i1,.bool n10,.string s10,.bool n11,.string s11,.bool n12,.string s12,.bool n13,.string s13] 29) := ⟨_,rfl⟩
 rw [← hv]
 have HV2 := Lib.hid (show Below U2.heap.size U2 v2 by rw [hv]; exact HV1.out.alloc HV1.out.size _)
 clear hv HV1 ix he x0 x1 x2 x3 x4 x5 x6 x7 x8 hx
 have ix : ∀ w,(Instr.index 73 (.agg #[.bool i0,.bool n00,.string s00,.bool n01,.string s01,.bool n02,.string s02,.bool n03,.string s03,.bool i1,.bool n10,.string s10,.bool n11,.string s11,.bool n12,.string s12,.bool n13,.string s13,.bool i2,.bool n20,.string s20,.bool n21,.string s21,.bool n22,.string s22,.bool n23,.string s23,.bool i3,.bool n30,.string s30,.bool n31,.string s31,.bool n32,.string s32,.bool n33,.string s33]) (.int .i64 2)).run Tryz.prog w = .ok (.agg #[.bool i2,.bool n20,.string s20,.bool n21,.string s21,.bool n22,.string s22,.bool n23,.string s23]) w := fun _ => by kernel_rfl
 have he := HQ22.out
 obtain ⟨⟨x0,x1,x2,x3,x4,x5,x6,x7,x8⟩,_⟩ := HN2.out.1 v2 HV2.out
 have hx : u2.heap.size < v2.heap.size := by have h1 := HN2.out.2.2; have h2 := HV2.out.size; omega
 rw [rounds_succ]
 go_wp2_with fail
 obtain ⟨v3,hv⟩ : ∃ v3,v3 = v2.alloc (.cells #[.bool i2,.bool n20,.string s20,.bool n21,.string s21,.bool n22,.string s22,.bool n23,.string s23] 29) := ⟨_,rfl⟩
 rw [← hv]
 have HV3 := Lib.hid (show Below U2.heap.size U2 v3 by rw [hv]; exact HV2.out.alloc HV2.out.size _)
 clear hv HV2 ix he x0 x1 x2 x3 x4 x5 x6 x7 x8 hx
 have ix : ∀ w,(Instr.index 73 (.agg #[.bool i0,.bool n00,.string s00,.bool n01,.string s01,.bool n02,.string s02,.bool n03,.string s03,.bool i1,.bool n10,.string s10,.bool n11,.string s11,.bool n12,.string s12,.bool n13,.string s13,.bool i2,.bool n20,.string s20,.bool n21,.string s21,.bool n22,.string s22,.bool n23,.string s23,.bool i3,.bool n30,.string s30,.bool n31,.string s31,.bool n32,.string s32,.bool n33,.string s33]) (.int .i64 3)).run Tryz.prog w = .ok (.agg #[.bool i3,.bool n30,.string s30,.bool n31,.string s31,.bool n32,.string s32,.bool n33,.string s33]) w := fun _ => by kernel_rfl
 have he := HQ23.out
 obtain ⟨⟨x0,x1,x2,x3,x4,x5,x6,x7,x8⟩,_⟩ := HN2.out.1 v3 HV3.out
 have hx : u2.heap.size < v3.heap.size := by have h1 := HN2.out.2.2; have h2 := HV3.out.size; omega
 rw [rounds_succ]
 go_wp2_with fail
 obtain ⟨v4,hv⟩ : ∃ v4,v4 = v3.alloc (.cells #[.bool i3,.bool n30,.string s30,.bool n31,.string s31,.bool n32,.string s32,.bool n33,.string s33] 29) := ⟨_,rfl⟩
 rw [← hv]
 have HV4 := Lib.hid (show Below U2.heap.size U2 v4 by rw [hv]; exact HV3.out.alloc HV3.out.size _)
 clear hv HV3 ix he x0 x1 x2 x3 x4 x5 x6 x7 x8 hx
 rw [rounds_succ]
 go_wp2_with fail
 have HU3 := Lib.hid (HN2.out.2.1.trans (HV4.out.mono HN2.out.2.1.size))
 obtain ⟨u3,hu⟩ : ∃ u3,u3 = v4 := ⟨_,rfl⟩
 rw [← hu] at HU3 ⊢
 clear hu HV4 HN2 HU2
 have ix : ∀ w,(Instr.index 73 (.agg #[.bool i0,.bool n00,.string s00,.bool n01,.string s01,.bool n02,.string s02,.bool n03,.string s03,.bool i1,.bool n10,.string s10,.bool n11,.string s11,.bool n12,.string s12,.bool n13,.string s13,.bool i2,.bool n20,.string s20,.bool n21,.string s21,.bool n22,.string s22,.bool n23,.string s23,.bool i3,.bool n30,.string s30,.bool n31,.string s31,.bool n32,.string s32,.bool n33,.string s33]) (.int .i64 3)).run Tryz.prog w = .ok (.agg #[.bool i3,.bool n30,.string s30,.bool n31,.string s31,.bool n32,.string s32,.bool n33,.string s33]) w := fun _ => by kernel_rfl
 obtain ⟨U3,hU⟩ : ∃ U3,U3 = u3.alloc (.cells #[.bool i3,.bool n30,.string s30,.bool n31,.string s31,.bool n32,.string s32,.bool n33,.string s33] 29) := ⟨_,rfl⟩
 have hbU : Below u3.heap.size u3 U3 := by rw [hU]; exact br.alloc (Nat.le_refl _) _
 have hbW := HU3.out.trans (hbU.mono HU3.out.size)
 have hgU : (u3.alloc (.cells #[.bool i3,.bool n30,.string s30,.bool n31,.string s31,.bool n32,.string s32,.bool n33,.string s33] 29)).heap[w.heap.size]? = some (.cells #[.bool i0,.bool n00,.string s00,.bool n01,.string s01,.bool n02,.string s02,.bool n03,.string s03,.bool i1,.bool n10,.string s10,.bool n11,.string s11,.bool n12,.string s12,.bool n13,.string s13,.bool i2,.bool n20,.string s20,.bool n21,.string s21,.bool n22,.string s22,.bool n23,.string s23,.bool i3,.bool n30,.string s30,.bool n31,.string s31,.bool n32,.string s32,.bool n33,.string s33] 73 (0,0)) := by rw [← hU]; exact (hbW.block _ HW.out.2.2.2).trans HW.out.2.2.1
 have HN3 := Lib.hid (And.intro (fun w1 (h : Below U3.heap.size U3 w1) => new_nine u3 _ _ _ _ _ _ _ _ _ _ (w1 := w1) (by rw [← hU]; exact h)) (And.intro hbW (show u3.heap.size < U3.heap.size by rw [hU]; simp)))
 rw [rounds_succ]
 go_wp2_with (refine wpList_load_row rfl 73 _ rfl (w.heap.size) rfl 73 _ (0,0) _ hgU Tryz.underlying73 rfl (by kernel_rfl) ?_)
 rw [← hU]
 clear hgU hU ix hbU hbW
 obtain ⟨v0,hv0⟩ : ∃ v0,v0 = U3 := ⟨_,rfl⟩
 have HV0 := Lib.hid (show Below U3.heap.size U3 v0 by rw [hv0]; exact Below.refl _ _)
 rw [← hv0]
 clear hv0
 refine wp_loop_rounds 5 ?_
 have ix : ∀ w,(Instr.index 73 (.agg #[.bool i0,.bool n00,.string s00,.bool n01,.string s01,.bool n02,.string s02,.bool n03,.string s03,.bool i1,.bool n10,.string s10,.bool n11,.string s11,.bool n12,.string s12,.bool n13,.string s13,.bool i2,.bool n20,.string s20,.bool n21,.string s21,.bool n22,.string s22,.bool n23,.string s23,.bool i3,.bool n30,.string s30,.bool n31,.string s31,.bool n32,.string s32,.bool n33,.string s33]) (.int .i64 0)).run Tryz.prog w = .ok (.agg #[.bool i0,.bool n00,.string s00,.bool n01,.string s01,.bool n02,.string s02,.bool n03,.string s03]) w := fun _ => by kernel_rfl
 have he := HQ30.out
 obtain ⟨⟨x0,x1,x2,x3,x4,x5,x6,x7,x8⟩,_⟩ := HN3.out.1 v0 HV0.out
 have hx : u3.heap.size < v0.heap.size := by have h1 := HN3.out.2.2; have h2 := HV0.out.size; omega
 rw [rounds_succ]
 go_wp2_with fail
 obtain ⟨v1,hv⟩ : ∃ v1,v1 = v0.alloc (.cells #[.bool i0,.bool n00,.string s00,.bool n01,.string s01,.bool n02,.string s02,.bool n03,.string s03] 29) := ⟨_,rfl⟩
 rw [← hv]
 have HV1 := Lib.hid (show Below U3.heap.size U3 v1 by rw [hv]; exact HV0.out.alloc HV0.out.size _)
 clear hv HV0 ix he x0 x1 x2 x3 x4 x5 x6 x7 x8 hx
 have ix : ∀ w,(Instr.index 73 (.agg #[.bool i0,.bool n00,.string s00,.bool n01,.string s01,.bool n02,.string s02,.bool n03,.string s03,.bool i1,.bool n10,.string s10,.bool n11,.string s11,.bool n12,.string s12,.bool n13,.string s13,.bool i2,.bool n20,.string s20,.bool n21,.string s21,.bool n22,.string s22,.bool n23,.string s23,.bool i3,.bool n30,.string s30,.bool n31,.string s31,.bool n32,.string s32,.bool n33,.string s33]) (.int .i64 1)).run Tryz.prog w = .ok (.agg #[.bool i1,.bool n10,.string s10,.bool n11,.string s11,.bool n12,.string s12,.bool n13,.string s13]) w := fun _ => by kernel_rfl
 have he := HQ31.out
 obtain ⟨⟨x0,x1,x2,x3,x4,x5,x6,x7,x8⟩,_⟩ := HN3.out.1 v1 HV1.out
 have hx : u3.heap.size < v1.heap.size := by have h1 := HN3.out.2.2; have h2 := HV1.out.size; omega
 rw [rounds_succ]
 go_wp2_with fail
 obtain ⟨v2,hv⟩ : ∃ v2,v2 = v1.alloc (.cells #[.bool i1,.bool n10,.string s10,.bool n11,.string s11,.bool n12,.string s12,.bool n13,.string s13] 29) := ⟨_,rfl⟩
 rw [← hv]
 have HV2 := Lib.hid (show Below U3.heap.size U3 v2 by rw [hv]; exact HV1.out.alloc HV1.out.size _)
 clear hv HV1 ix he x0 x1 x2 x3 x4 x5 x6 x7 x8 hx
 have ix : ∀ w,(Instr.index 73 (.agg #[.bool i0,.bool n00,.string s00,.bool n01,.string s01,.bool n02,.string s02,.bool n03,.string s03,.bool i1,.bool n10,.string s10,.bool n11,.string s11,.bool n12,.string s12,.bool n13,.string s13,.bool i2,.bool n20,.string s20,.bool n21,.string s21,.bool n22,.string s22,.bool n23,.string s23,.bool i3,.bool n30,.string s30,.bool n31,.string s31,.bool n32,.string s32,.bool n33,.string s33]) (.int .i64 2)).run Tryz.prog w = .ok (.agg #[.bool i2,.bool n20,.string s20,.bool n21,.string s21,.bool n22,.string s22,.bool n23,.string s23]) w := fun _ => by kernel_rfl
 have he := HQ32.out
 obtain ⟨⟨x0,x1,x2,x3,x4,x5,x6,x7,x8⟩,_⟩ := HN3.out.1 v2 HV2.out
 have hx : u3.heap.size < v2.heap.size := by have h1 := HN3.out.2.2; have h2 := HV2.out.size; omega
 rw [rounds_succ]
 go_wp2_with fail
 obtain ⟨v3,hv⟩ : ∃ v3,v3 = v2.alloc (.cells #[.bool i2,.bool n20,.string s20,.bool n21,.string s21,.bool n22,.string s22,.bool n23,.string s23] 29) := ⟨_,rfl⟩
 rw [← hv]
 have HV3 := Lib.hid (show Below U3.heap.size U3 v3 by rw [hv]; exact HV2.out.alloc HV2.out.size _)
 clear hv HV2 ix he x0 x1 x2 x3 x4 x5 x6 x7 x8 hx
 have ix : ∀ w,(Instr.index 73 (.agg #[.bool i0,.bool n00,.string s00,.bool n01,.string s01,.bool n02,.string s02,.bool n03,.string s03,.bool i1,.bool n10,.string s10,.bool n11,.string s11,.bool n12,.string s12,.bool n13,.string s13,.bool i2,.bool n20,.string s20,.bool n21,.string s21,.bool n22,.string s22,.bool n23,.string s23,.bool i3,.bool n30,.string s30,.bool n31,.string s31,.bool n32,.string s32,.bool n33,.string s33]) (.int .i64 3)).run Tryz.prog w = .ok (.agg #[.bool i3,.bool n30,.string s30,.bool n31,.string s31,.bool n32,.string s32,.bool n33,.string s33]) w := fun _ => by kernel_rfl
 have he := HQ33.out
 obtain ⟨⟨x0,x1,x2,x3,x4,x5,x6,x7,x8⟩,_⟩ := HN3.out.1 v3 HV3.out
 have hx : u3.heap.size < v3.heap.size := by have h1 := HN3.out.2.2; have h2 := HV3.out.size; omega
 rw [rounds_succ]
 go_wp2_with fail
 obtain ⟨v4,hv⟩ : ∃ v4,v4 = v3.alloc (.cells #[.bool i3,.bool n30,.string s30,.bool n31,.string s31,.bool n32,.string s32,.bool n33,.string s33] 29) := ⟨_,rfl⟩
 rw [← hv]
 have HV4 := Lib.hid (show Below U3.heap.size U3 v4 by rw [hv]; exact HV3.out.alloc HV3.out.size _)
 clear hv HV3 ix he x0 x1 x2 x3 x4 x5 x6 x7 x8 hx
 rw [rounds_succ]
 go_wp2_with fail
 have HU4 := Lib.hid (HN3.out.2.1.trans (HV4.out.mono HN3.out.2.1.size))
 obtain ⟨u4,hu⟩ : ∃ u4,u4 = v4 := ⟨_,rfl⟩
 rw [← hu] at HU4 ⊢
 clear hu HV4 HN3 HU3
 rw [rounds_succ]
 go_wp2_with fail
 go_ret
 exact ⟨rfl,HW.out.2.1.trans (HU4.out.mono HW.out.2.1.size)⟩
end Go.Proofs.YtepefgkihnjjaaaGreat
