/- Laws for the walk. -/
import Derived.Test.YtepefgkihnjjaaaGreatZzz
import Derived.Test.YtepefgkihnjjaaaGreatZbb
import Derived.Test.YtepefgkihnjjaaaGreatZbe
import Derived.Test.YtepefgkihnjjaaaGreatZbf
set_option linter.unusedVariables false
namespace Go.Proofs.YtepefgkihnjjaaaGreat
open Go.RowKit Tr
set_option maxRecDepth 100000 in
set_option maxHeartbeats 1600000 in
theorem run_neq_pt (w : World) (i n1 n2 n3 n4 j m1 m2 m3 m4 : Bool) (s1 s2 s3 s4 t1 t2 t3 t4 : ByteArray) (r : Bool) (hr : r = true ↔ Value.agg #[.bool i,.bool n1,.string s1,.bool n2,.string s2,.bool n3,.string s3,.bool n4,.string s4] ≠ .agg #[.bool j,.bool m1,.string t1,.bool m2,.string t2,.bool m3,.string t3,.bool m4,.string t4]) :
  (binOp .neq 29 (.agg #[.bool i,.bool n1,.string s1,.bool n2,.string s2,.bool n3,.string s3,.bool n4,.string s4]) (.agg #[.bool j,.bool m1,.string t1,.bool m2,.string t2,.bool m3,.string t3,.bool m4,.string t4])).run Tryz.prog w = .ok (.bool r) w := by
 simp only [ne_eq,Value.agg.injEq,Array.mk.injEq,List.cons.injEq,Value.bool.injEq,Value.string.injEq,and_true] at hr
 go_simp
 simp only [toL_iff]
 cases r
 ·obtain ⟨rfl,rfl,rfl,rfl,rfl,rfl,rfl,rfl,rfl⟩ := Classical.byContradiction fun hn => by cases hr.2 hn
  simp
 ·have hn := hr.1 rfl
  repeat' split
  all_goals first
   | rfl
   | (exfalso; apply hn; refine ⟨?_,?_,?_,?_,?_,?_,?_,?_,?_⟩ <;> assumption)
def RowB (cs : Array Value) (T : TypeId) : Fact := fun v w A => ∃ m,v = .pointer (some ⟨m,0,none⟩) ∧ ¬ A m ∧ w.heap[m]? = some (.cells cs T (0,0))
theorem RowB.keeps (cs : Array Value) (T : TypeId) : (RowB cs T).Keeps := fun v w w' A A' hs hk ⟨m,e,hA,hz⟩ =>
 ⟨m,e,(hk m (Array.getElem?_eq_some_iff.1 hz).1 hA).2,((hk m (Array.getElem?_eq_some_iff.1 hz).1 hA).1).trans hz⟩
theorem set8_part {w : World} {m : Nat} {cs cs' : Array Value} {T : TypeId} {x0 x1 x2 x3 x4 x5 x6 x7 : Value} (h : w.heap[m]? = some (.cells cs T (0,0))) (hc : (((((((cs.setIfInBounds 0 x0).setIfInBounds 1 x1).setIfInBounds 2 x2).setIfInBounds 3 x3).setIfInBounds 4 x4).setIfInBounds 5 x5).setIfInBounds 6 x6).setIfInBounds 7 x7 = cs') :
  ((((((((w.setCell ⟨m,0,none⟩ x0).setCell ⟨m,1,none⟩ x1).setCell ⟨m,2,none⟩ x2).setCell ⟨m,3,none⟩ x3).setCell ⟨m,4,none⟩ x4).setCell ⟨m,5,none⟩ x5).setCell ⟨m,6,none⟩ x6).setCell ⟨m,7,none⟩ x7).heap[m]? = some (.cells cs' T (0,0)) := by
 rw [← hc]
 exact heap_setCell_same _ _ _ _ _ _ (heap_setCell_same _ _ _ _ _ _ (heap_setCell_same _ _ _ _ _ _ (heap_setCell_same _ _ _ _ _ _ (heap_setCell_same _ _ _ _ _ _ (heap_setCell_same _ _ _ _ _ _ (heap_setCell_same _ _ _ _ _ _ (heap_setCell_same _ _ _ _ _ _ h)))))))
theorem alloc_tail {w v : World} {o : Obj} (h : Below w.heap.size w v) : Below w.heap.size w (v.alloc o) := h.trans ((br.alloc (Nat.le_refl _) _).mono h.size)
theorem lwbox (w : World) (a0 a1 a2 a3 a4 a5 a6 a7 a8 a9 a10 a11 a12 a13 a14 a15 a16 a17 a18 a19 a20 a21 a22 a23 a24 a25 a26 a27 a28 a29 a30 a31 a32 a33 a34 a35 a36 a37 a38 a39 a40 a41 a42 a43 a44 a45 a46 a47 a48 a49 a50 a51 a52 a53 a54 a55 a56 a57 a58 a59 b0 b1 b2 b3 b4 b5 b6 b7 b8 b9 b10 b11 b12 b13 b14 b15 b16 b17 b18 b19 b20 b21 b22 b23 b24 b25 b26 b27 b28 b29 b30 b31 b32 b33 b34 b35 b36 b37 b38 b39 b40 b41 b42 b43 b44 b45 b46 b47 b48 b49 b50 b51 b52 b53 b54 b55 : Value) :
  ∃ W,Hid (W = (w.alloc (.cells #[a0,a1,a2,a3,a4,a5,a6,a7,a8,a9,a10,a11,a12,a13,a14,a15,a16,a17,a18,a19,a20,a21,a22,a23,a24,a25,a26,a27,a28,a29,a30,a31,a32,a33,a34,a35,a36,a37,a38,a39,a40,a41,a42,a43,a44,a45,a46,a47,a48,a49,a50,a51,a52,a53,a54,a55,a56,a57,a58,a59] 31)).alloc (.cells #[b0,b1,b2,b3,b4,b5,b6,b7,b8,b9,b10,b11,b12,b13,b14,b15,b16,b17,b18,b19,b20,b21,b22,b23,b24,b25,b26,b27,b28,b29,b30,b31,b32,b33,b34,b35,b36,b37,b38,b39,b40,b41,b42,b43,b44,b45,b46,b47,b48,b49,b50,b51,b52,b53,b54,b55] 27) ∧ Below w.heap.size w W ∧ W.heap.size = w.heap.size + 2 ∧ ∀ w1,Below W.heap.size W w1 → (w1.heap[w.heap.size]? = some (.cells #[a0,a1,a2,a3,a4,a5,a6,a7,a8,a9,a10,a11,a12,a13,a14,a15,a16,a17,a18,a19,a20,a21,a22,a23,a24,a25,a26,a27,a28,a29,a30,a31,a32,a33,a34,a35,a36,a37,a38,a39,a40,a41,a42,a43,a44,a45,a46,a47,a48,a49,a50,a51,a52,a53,a54,a55,a56,a57,a58,a59] 31 (0,0))) ∧
   (w1.heap[w.heap.size + 1]? = some (.cells #[b0,b1,b2,b3,b4,b5,b6,b7,b8,b9,b10,b11,b12,b13,b14,b15,b16,b17,b18,b19,b20,b21,b22,b23,b24,b25,b26,b27,b28,b29,b30,b31,b32,b33,b34,b35,b36,b37,b38,b39,b40,b41,b42,b43,b44,b45,b46,b47,b48,b49,b50,b51,b52,b53,b54,b55] 27 (0,0)))) := by
 obtain ⟨w1,hw1⟩ : ∃ w1,w1 = w.alloc (.cells #[a0,a1,a2,a3,a4,a5,a6,a7,a8,a9,a10,a11,a12,a13,a14,a15,a16,a17,a18,a19,a20,a21,a22,a23,a24,a25,a26,a27,a28,a29,a30,a31,a32,a33,a34,a35,a36,a37,a38,a39,a40,a41,a42,a43,a44,a45,a46,a47,a48,a49,a50,a51,a52,a53,a54,a55,a56,a57,a58,a59] 31) := ⟨_,rfl⟩
 have hz1 : w1.heap.size = w.heap.size + 1 := by rw [hw1]; simp
 have hb1 : Below w.heap.size w w1 := by rw [hw1]; exact br.alloc (Nat.le_refl _) _
 obtain ⟨w2,hw2⟩ : ∃ w2,w2 = w1.alloc (.cells #[b0,b1,b2,b3,b4,b5,b6,b7,b8,b9,b10,b11,b12,b13,b14,b15,b16,b17,b18,b19,b20,b21,b22,b23,b24,b25,b26,b27,b28,b29,b30,b31,b32,b33,b34,b35,b36,b37,b38,b39,b40,b41,b42,b43,b44,b45,b46,b47,b48,b49,b50,b51,b52,b53,b54,b55] 27) := ⟨_,rfl⟩
 have hz2 : w2.heap.size = w.heap.size + 2 := by rw [hw2]; simp [hz1]
 have hb2 : Below w1.heap.size w1 w2 := by rw [hw2]; exact br.alloc (Nat.le_refl _) _
 have t2 : Below w2.heap.size w2 w2 := Below.refl _ _
 have t1 : Below w1.heap.size w1 w2 := hb2.trans (t2.mono hb2.size)
 refine ⟨w2,Lib.hid ⟨by rw [hw2,hw1],hb1.trans (t1.mono hb1.size),hz2,fun w' h => ?_⟩⟩
 have e0 := (t1.trans (h.mono t1.size)).block w.heap.size (by rw [hw1]; simp)
 rw [hw1,heap_alloc_new] at e0
 have e1 := (t2.trans (h.mono t2.size)).block w1.heap.size (by rw [hw2]; simp)
 rw [hw2,heap_alloc_new] at e1
 rw [hz1] at e1
 exact ⟨e0,e1⟩
set_option maxRecDepth 100000 in
set_option maxHeartbeats 12800000 in
theorem law_big (i0 i1 i2 i3 n00 n01 n02 n03 n10 n11 n12 n13 n20 n21 n22 n23 n30 n31 n32 n33 g00 g01 g02 g03 g10 g11 g12 g13 g20 g21 g22 g23 : Bool) (s00 s01 s02 s03 s10 s11 s12 s13 s20 s21 s22 s23 s30 s31 s32 s33 t00 t01 t02 t03 t10 t11 t12 t13 t20 t21 t22 t23 : ByteArray) (hbig : ¬ (s00.size ≤ 8 ∧ s01.size ≤ 8 ∧ s02.size ≤ 8 ∧ s03.size ≤ 8 ∧ s10.size ≤ 8 ∧ s11.size ≤ 8 ∧ s12.size ≤ 8 ∧ s13.size ≤ 8 ∧ s20.size ≤ 8 ∧ s21.size ≤ 8 ∧ s22.size ≤ 8 ∧ s23.size ≤ 8 ∧ s30.size ≤ 8 ∧ s31.size ≤ 8 ∧ s32.size ≤ 8 ∧ s33.size ≤ 8 ∧ t00.size ≤ 8 ∧ t01.size ≤ 8 ∧ t02.size ≤ 8 ∧ t03.size ≤ 8 ∧ t10.size ≤ 8 ∧ t11.size ≤ 8 ∧ t12.size ≤ 8 ∧ t13.size ≤ 8 ∧ t20.size ≤ 8 ∧ t21.size ≤ 8 ∧ t22.size ≤ 8 ∧ t23.size ≤ 8)) (w : World) :
  Calls Tryz.prog 4 #[.agg #[.bool i0,.bool n00,.string s00,.bool n01,.string s01,.bool n02,.string s02,.bool n03,.string s03,.bool i1,.bool n10,.string s10,.bool n11,.string s11,.bool n12,.string s12,.bool n13,.string s13,.bool i2,.bool n20,.string s20,.bool n21,.string s21,.bool n22,.string s22,.bool n23,.string s23,.bool i3,.bool n30,.string s30,.bool n31,.string s31,.bool n32,.string s32,.bool n33,.string s33,.bool g00,.string t00,.bool g01,.string t01,.bool g02,.string t02,.bool g03,.string t03,.bool g10,.string t10,.bool g11,.string t11,.bool g12,.string t12,.bool g13,.string t13,.bool g20,.string t20,.bool g21,.string t21,.bool g22,.string t22,.bool g23,.string t23]] w fun e w' => e = .returned (.bool true) ∧ Below w.heap.size w w' := by
 obtain ⟨W,HV⟩ := lwbox w (.bool i0) (.bool n00) (.string s00) (.bool n01) (.string s01) (.bool n02) (.string s02) (.bool n03) (.string s03) (.bool i1) (.bool n10) (.string s10) (.bool n11) (.string s11) (.bool n12) (.string s12) (.bool n13) (.string s13) (.bool i2) (.bool n20) (.string s20) (.bool n21) (.string s21) (.bool n22) (.string s22) (.bool n23) (.string s23) (.bool i3) (.bool n30) (.string s30) (.bool n31) (.string s31) (.bool n32) (.string s32) (.bool n33) (.string s33) (.bool g00) (.string t00) (.bool g01) (.string t01) (.bool g02) (.string t02) (.bool g03) (.string t03) (.bool g10) (.string t10) (.bool g11) (.string t11) (.bool g12) (.string t12) (.bool g13) (.string t13) (.bool g20) (.string t20) (.bool g21) (.string t21) (.bool g22) (.string t22) (.bool g23) (.string t23) (.bool n00) (.string s00) (.bool n01) (.string s01) (.bool n02) (.string s02) (.bool n03) (.string s03) (.bool n10) (.string s10) (.bool n11) (.string s11) (.bool n12) (.string s12) (.bool n13) (.string s13) (.bool n20) (.string s20) (.bool n21) (.string s21) (.bool n22) (.string s22) (.bool n23) (.string s23) (.bool n30) (.string s30) (.bool n31) (.string s31) (.bool n32) (.string s32) (.bool n33) (.string s33) (.bool g00) (.string t00) (.bool g01) (.string t01) (.bool g02) (.string t02) (.bool g03) (.string t03) (.bool g10) (.string t10) (.bool g11) (.string t11) (.bool g12) (.string t12) (.bool g13) (.string t13) (.bool g20) (.string t20) (.bool g21) (.string t21) (.bool g22) (.string t22) (.bool g23) (.string t23)
 have hgc : (w.alloc (.cells #[.bool i0,.bool n00,.string s00,.bool n01,.string s01,.bool n02,.string s02,.bool n03,.string s03,.bool i1,.bool n10,.string s10,.bool n11,.string s11,.bool n12,.string s12,.bool n13,.string s13,.bool i2,.bool n20,.string s20,.bool n21,.string s21,.bool n22,.string s22,.bool n23,.string s23,.bool i3,.bool n30,.string s30,.bool n31,.string s31,.bool n32,.string s32,.bool n33,.string s33,.bool g00,.string t00,.bool g01,.string t01,.bool g02,.string t02,.bool g03,.string t03,.bool g10,.string t10,.bool g11,.string t11,.bool g12,.string t12,.bool g13,.string t13,.bool g20,.string t20,.bool g21,.string t21,.bool g22,.string t22,.bool g23,.string t23] 31)).heap[w.heap.size]? = some (.cells #[.bool i0,.bool n00,.string s00,.bool n01,.string s01,.bool n02,.string s02,.bool n03,.string s03,.bool i1,.bool n10,.string s10,.bool n11,.string s11,.bool n12,.string s12,.bool n13,.string s13,.bool i2,.bool n20,.string s20,.bool n21,.string s21,.bool n22,.string s22,.bool n23,.string s23,.bool i3,.bool n30,.string s30,.bool n31,.string s31,.bool n32,.string s32,.bool n33,.string s33,.bool g00,.string t00,.bool g01,.string t01,.bool g02,.string t02,.bool g03,.string t03,.bool g10,.string t10,.bool g11,.string t11,.bool g12,.string t12,.bool g13,.string t13,.bool g20,.string t20,.bool g21,.string t21,.bool g22,.string t22,.bool g23,.string t23] 31 (0,0)) := heap_alloc_new w _
 go_enter Tryz.func4,Tryz.ntmps4
 go_wp2_with (first
   | (refine Go.Great.wpList_boxTo rfl 31 _ rfl (some 1) rfl w.heap.size rfl _ rfl ?_)
   | (refine wpList_load_part (by kernel_rfl) 27 _ rfl w.heap.size 1 rfl 31 _ #[.bool n00,.string s00,.bool n01,.string s01,.bool n02,.string s02,.bool n03,.string s03] (0,0) _ hgc Tryz.underlying27 rfl (by kernel_rfl) (by kernel_rfl) ?_)
   | (refine wpList_load_part (by kernel_rfl) 27 _ rfl w.heap.size 10 rfl 31 _ #[.bool n10,.string s10,.bool n11,.string s11,.bool n12,.string s12,.bool n13,.string s13] (0,0) _ hgc Tryz.underlying27 rfl (by kernel_rfl) (by kernel_rfl) ?_)
   | (refine wpList_load_part (by kernel_rfl) 27 _ rfl w.heap.size 19 rfl 31 _ #[.bool n20,.string s20,.bool n21,.string s21,.bool n22,.string s22,.bool n23,.string s23] (0,0) _ hgc Tryz.underlying27 rfl (by kernel_rfl) (by kernel_rfl) ?_)
   | (refine wpList_load_part (by kernel_rfl) 27 _ rfl w.heap.size 28 rfl 31 _ #[.bool n30,.string s30,.bool n31,.string s31,.bool n32,.string s32,.bool n33,.string s33] (0,0) _ hgc Tryz.underlying27 rfl (by kernel_rfl) (by kernel_rfl) ?_)
   | (refine wpList_load_part (by kernel_rfl) 27 _ rfl w.heap.size 36 rfl 31 _ #[.bool g00,.string t00,.bool g01,.string t01,.bool g02,.string t02,.bool g03,.string t03] (0,0) _ hgc Tryz.underlying27 rfl (by kernel_rfl) (by kernel_rfl) ?_)
   | (refine wpList_load_part (by kernel_rfl) 27 _ rfl w.heap.size 44 rfl 31 _ #[.bool g10,.string t10,.bool g11,.string t11,.bool g12,.string t12,.bool g13,.string t13] (0,0) _ hgc Tryz.underlying27 rfl (by kernel_rfl) (by kernel_rfl) ?_)
   | (refine wpList_load_part (by kernel_rfl) 27 _ rfl w.heap.size 52 rfl 31 _ #[.bool g20,.string t20,.bool g21,.string t21,.bool g22,.string t22,.bool g23,.string t23] (0,0) _ hgc Tryz.underlying27 rfl (by kernel_rfl) (by kernel_rfl) ?_))
 try simp only [Nat.add_assoc,Nat.reduceAdd]
 rw [← HV.out.1]
 clear hgc
 refine (wide_any n00 n01 n02 n03 n10 n11 n12 n13 n20 n21 n22 n23 n30 n31 n32 n33 g00 g01 g02 g03 g10 g11 g12 g13 g20 g21 g22 g23 s00 s01 s02 s03 s10 s11 s12 s13 s20 s21 s22 s23 s30 s31 s32 s33 t00 t01 t02 t03 t10 t11 t12 t13 t20 t21 t22 t23 (w.heap.size + 1) W (HV.out.2.2.2 W br).2).mono ?_
 rintro e w' ⟨r,rfl,rfl,hr⟩
 generalize Value.agg #[.bool i0,.bool n00,.string s00,.bool n01,.string s01,.bool n02,.string s02,.bool n03,.string s03,.bool i1,.bool n10,.string s10,.bool n11,.string s11,.bool n12,.string s12,.bool n13,.string s13,.bool i2,.bool n20,.string s20,.bool n21,.string s21,.bool n22,.string s22,.bool n23,.string s23,.bool i3,.bool n30,.string s30,.bool n31,.string s31,.bool n32,.string s32,.bool n33,.string s33,.bool g00,.string t00,.bool g01,.string t01,.bool g02,.string t02,.bool g03,.string t03,.bool g10,.string t10,.bool g11,.string t11,.bool g12,.string t12,.bool g13,.string t13,.bool g20,.string t20,.bool g21,.string t21,.bool g22,.string t22,.bool g23,.string t23] = big0
 cases r
 case false => exact absurd (hr rfl) hbig
 case true =>
  go_wp2_with fail
  refine (Known_any _).mono ?_
  rintro e y ⟨rfl,hb⟩
  have HBy := Lib.hid (HV.out.2.1.trans (hb.mono HV.out.2.1.size))
  clear hb
  go_wp2_with fail
  go_ret
  exact ⟨rfl,HBy.out⟩
set_option maxRecDepth 100000 in
set_option maxHeartbeats 12800000 in
theorem law_ob (i0 i1 i2 i3 n00 n01 n02 n03 n10 n11 n12 n13 n20 n21 n22 n23 n30 n31 n32 n33 g00 g01 g02 g03 g10 g11 g12 g13 g20 g21 g22 g23 : Bool) (s00 s01 s02 s03 s10 s11 s12 s13 s20 s21 s22 s23 s30 s31 s32 s33 t00 t01 t02 t03 t10 t11 t12 t13 t20 t21 t22 t23 : ByteArray) (oi on1 on2 on3 on4 : Bool) (os1 os2 os3 os4 : ByteArray) (HFa : ∀ w,Calls Tryz.prog 8 #[.agg #[.bool i0,.bool n00,.string s00,.bool n01,.string s01,.bool n02,.string s02,.bool n03,.string s03,.bool i1,.bool n10,.string s10,.bool n11,.string s11,.bool n12,.string s12,.bool n13,.string s13,.bool i2,.bool n20,.string s20,.bool n21,.string s21,.bool n22,.string s22,.bool n23,.string s23,.bool i3,.bool n30,.string s30,.bool n31,.string s31,.bool n32,.string s32,.bool n33,.string s33,.bool g00,.string t00,.bool g01,.string t01,.bool g02,.string t02,.bool g03,.string t03,.bool g10,.string t10,.bool g11,.string t11,.bool g12,.string t12,.bool g13,.string t13,.bool g20,.string t20,.bool g21,.string t21,.bool g22,.string t22,.bool g23,.string t23]] w fun e w' => e = .returned (.tuple #[.agg #[.bool oi,.bool on1,.string os1,.bool on2,.string os2,.bool on3,.string os3,.bool on4,.string os4,.bool oi,.bool on1,.string os1,.bool on2,.string os2,.bool on3,.string os3,.bool on4,.string os4,.bool oi,.bool on1,.string os1,.bool on2,.string os2,.bool on3,.string os3,.bool on4,.string os4],.int .i64 0]) ∧ Below w.heap.size w w') (kf : Int) (hkf : kf = 2 ∨ kf = 370 ∨ kf = 4) (HCo : ∀ w,Calls Tryz.prog 10 #[.agg #[.bool i0,.bool n00,.string s00,.bool n01,.string s01,.bool n02,.string s02,.bool n03,.string s03],.agg #[.bool i1,.bool n10,.string s10,.bool n11,.string s11,.bool n12,.string s12,.bool n13,.string s13],.agg #[.bool i2,.bool n20,.string s20,.bool n21,.string s21,.bool n22,.string s22,.bool n23,.string s23],.agg #[.bool g00,.string t00,.bool g01,.string t01,.bool g02,.string t02,.bool g03,.string t03]] w fun e w' => e = .returned (.tuple #[.agg #[.bool false,.bool false,.string ⟨#[]⟩,.bool false,.string ⟨#[]⟩,.bool false,.string ⟨#[]⟩,.bool false,.string ⟨#[]⟩],.int .i64 kf]) ∧ Below w.heap.size w w') (w : World) :
  Calls Tryz.prog 4 #[.agg #[.bool i0,.bool n00,.string s00,.bool n01,.string s01,.bool n02,.string s02,.bool n03,.string s03,.bool i1,.bool n10,.string s10,.bool n11,.string s11,.bool n12,.string s12,.bool n13,.string s13,.bool i2,.bool n20,.string s20,.bool n21,.string s21,.bool n22,.string s22,.bool n23,.string s23,.bool i3,.bool n30,.string s30,.bool n31,.string s31,.bool n32,.string s32,.bool n33,.string s33,.bool g00,.string t00,.bool g01,.string t01,.bool g02,.string t02,.bool g03,.string t03,.bool g10,.string t10,.bool g11,.string t11,.bool g12,.string t12,.bool g13,.string t13,.bool g20,.string t20,.bool g21,.string t21,.bool g22,.string t22,.bool g23,.string t23]] w fun e w' => e = .returned (.bool true) ∧ Below w.heap.size w w' := by
 have HFa_ := Lib.hid HFa
 have HCo_ := Lib.hid HCo
 clear HFa HCo
 obtain ⟨W,HV⟩ := lwbox w (.bool i0) (.bool n00) (.string s00) (.bool n01) (.string s01) (.bool n02) (.string s02) (.bool n03) (.string s03) (.bool i1) (.bool n10) (.string s10) (.bool n11) (.string s11) (.bool n12) (.string s12) (.bool n13) (.string s13) (.bool i2) (.bool n20) (.string s20) (.bool n21) (.string s21) (.bool n22) (.string s22) (.bool n23) (.string s23) (.bool i3) (.bool n30) (.string s30) (.bool n31) (.string s31) (.bool n32) (.string s32) (.bool n33) (.string s33) (.bool g00) (.string t00) (.bool g01) (.string t01) (.bool g02) (.string t02) (.bool g03) (.string t03) (.bool g10) (.string t10) (.bool g11) (.string t11) (.bool g12) (.string t12) (.bool g13) (.string t13) (.bool g20) (.string t20) (.bool g21) (.string t21) (.bool g22) (.string t22) (.bool g23) (.string t23) (.bool n00) (.string s00) (.bool n01) (.string s01) (.bool n02) (.string s02) (.bool n03) (.string s03) (.bool n10) (.string s10) (.bool n11) (.string s11) (.bool n12) (.string s12) (.bool n13) (.string s13) (.bool n20) (.string s20) (.bool n21) (.string s21) (.bool n22) (.string s22) (.bool n23) (.string s23) (.bool n30) (.string s30) (.bool n31) (.string s31) (.bool n32) (.string s32) (.bool n33) (.string s33) (.bool g00) (.string t00) (.bool g01) (.string t01) (.bool g02) (.string t02) (.bool g03) (.string t03) (.bool g10) (.string t10) (.bool g11) (.string t11) (.bool g12) (.string t12) (.bool g13) (.string t13) (.bool g20) (.string t20) (.bool g21) (.string t21) (.bool g22) (.string t22) (.bool g23) (.string t23)
 have hgc : (w.alloc (.cells #[.bool i0,.bool n00,.string s00,.bool n01,.string s01,.bool n02,.string s02,.bool n03,.string s03,.bool i1,.bool n10,.string s10,.bool n11,.string s11,.bool n12,.string s12,.bool n13,.string s13,.bool i2,.bool n20,.string s20,.bool n21,.string s21,.bool n22,.string s22,.bool n23,.string s23,.bool i3,.bool n30,.string s30,.bool n31,.string s31,.bool n32,.string s32,.bool n33,.string s33,.bool g00,.string t00,.bool g01,.string t01,.bool g02,.string t02,.bool g03,.string t03,.bool g10,.string t10,.bool g11,.string t11,.bool g12,.string t12,.bool g13,.string t13,.bool g20,.string t20,.bool g21,.string t21,.bool g22,.string t22,.bool g23,.string t23] 31)).heap[w.heap.size]? = some (.cells #[.bool i0,.bool n00,.string s00,.bool n01,.string s01,.bool n02,.string s02,.bool n03,.string s03,.bool i1,.bool n10,.string s10,.bool n11,.string s11,.bool n12,.string s12,.bool n13,.string s13,.bool i2,.bool n20,.string s20,.bool n21,.string s21,.bool n22,.string s22,.bool n23,.string s23,.bool i3,.bool n30,.string s30,.bool n31,.string s31,.bool n32,.string s32,.bool n33,.string s33,.bool g00,.string t00,.bool g01,.string t01,.bool g02,.string t02,.bool g03,.string t03,.bool g10,.string t10,.bool g11,.string t11,.bool g12,.string t12,.bool g13,.string t13,.bool g20,.string t20,.bool g21,.string t21,.bool g22,.string t22,.bool g23,.string t23] 31 (0,0)) := heap_alloc_new w _
 go_enter Tryz.func4,Tryz.ntmps4
 go_wp2_with (first
   | (refine Go.Great.wpList_boxTo rfl 31 _ rfl (some 1) rfl w.heap.size rfl _ rfl ?_)
   | (refine wpList_load_part (by kernel_rfl) 27 _ rfl w.heap.size 1 rfl 31 _ #[.bool n00,.string s00,.bool n01,.string s01,.bool n02,.string s02,.bool n03,.string s03] (0,0) _ hgc Tryz.underlying27 rfl (by kernel_rfl) (by kernel_rfl) ?_)
   | (refine wpList_load_part (by kernel_rfl) 27 _ rfl w.heap.size 10 rfl 31 _ #[.bool n10,.string s10,.bool n11,.string s11,.bool n12,.string s12,.bool n13,.string s13] (0,0) _ hgc Tryz.underlying27 rfl (by kernel_rfl) (by kernel_rfl) ?_)
   | (refine wpList_load_part (by kernel_rfl) 27 _ rfl w.heap.size 19 rfl 31 _ #[.bool n20,.string s20,.bool n21,.string s21,.bool n22,.string s22,.bool n23,.string s23] (0,0) _ hgc Tryz.underlying27 rfl (by kernel_rfl) (by kernel_rfl) ?_)
   | (refine wpList_load_part (by kernel_rfl) 27 _ rfl w.heap.size 28 rfl 31 _ #[.bool n30,.string s30,.bool n31,.string s31,.bool n32,.string s32,.bool n33,.string s33] (0,0) _ hgc Tryz.underlying27 rfl (by kernel_rfl) (by kernel_rfl) ?_)
   | (refine wpList_load_part (by kernel_rfl) 27 _ rfl w.heap.size 36 rfl 31 _ #[.bool g00,.string t00,.bool g01,.string t01,.bool g02,.string t02,.bool g03,.string t03] (0,0) _ hgc Tryz.underlying27 rfl (by kernel_rfl) (by kernel_rfl) ?_)
   | (refine wpList_load_part (by kernel_rfl) 27 _ rfl w.heap.size 44 rfl 31 _ #[.bool g10,.string t10,.bool g11,.string t11,.bool g12,.string t12,.bool g13,.string t13] (0,0) _ hgc Tryz.underlying27 rfl (by kernel_rfl) (by kernel_rfl) ?_)
   | (refine wpList_load_part (by kernel_rfl) 27 _ rfl w.heap.size 52 rfl 31 _ #[.bool g20,.string t20,.bool g21,.string t21,.bool g22,.string t22,.bool g23,.string t23] (0,0) _ hgc Tryz.underlying27 rfl (by kernel_rfl) (by kernel_rfl) ?_))
 try simp only [Nat.add_assoc,Nat.reduceAdd]
 rw [← HV.out.1]
 clear hgc
 refine (wide_any n00 n01 n02 n03 n10 n11 n12 n13 n20 n21 n22 n23 n30 n31 n32 n33 g00 g01 g02 g03 g10 g11 g12 g13 g20 g21 g22 g23 s00 s01 s02 s03 s10 s11 s12 s13 s20 s21 s22 s23 s30 s31 s32 s33 t00 t01 t02 t03 t10 t11 t12 t13 t20 t21 t22 t23 (w.heap.size + 1) W (HV.out.2.2.2 W br).2).mono ?_
 rintro e w' ⟨r,rfl,rfl,hr⟩
 generalize Value.agg #[.bool i0,.bool n00,.string s00,.bool n01,.string s01,.bool n02,.string s02,.bool n03,.string s03,.bool i1,.bool n10,.string s10,.bool n11,.string s11,.bool n12,.string s12,.bool n13,.string s13,.bool i2,.bool n20,.string s20,.bool n21,.string s21,.bool n22,.string s22,.bool n23,.string s23,.bool i3,.bool n30,.string s30,.bool n31,.string s31,.bool n32,.string s32,.bool n33,.string s33,.bool g00,.string t00,.bool g01,.string t01,.bool g02,.string t02,.bool g03,.string t03,.bool g10,.string t10,.bool g11,.string t11,.bool g12,.string t12,.bool g13,.string t13,.bool g20,.string t20,.bool g21,.string t21,.bool g22,.string t22,.bool g23,.string t23] = big0
 cases r
 case true =>
  go_wp2_with fail
  refine (Known_any _).mono ?_
  rintro e y ⟨rfl,hb⟩
  have HBy := Lib.hid (HV.out.2.1.trans (hb.mono HV.out.2.1.size))
  clear hb
  go_wp2_with fail
  go_ret
  exact ⟨rfl,HBy.out⟩
 clear hr
 have hg0 := (HV.out.2.2.2 w' br).1
 go_wp2_with (refine wpList_load_row rfl 31 _ rfl (w.heap.size) rfl 31 _ (0,0) _ hg0 Tryz.underlying31 rfl (by kernel_rfl) ?_)
 clear hg0
 refine (HFa_.out _).mono ?_
 rintro e v1 ⟨rfl,hb⟩
 generalize Value.agg #[.bool i0,.bool n00,.string s00,.bool n01,.string s01,.bool n02,.string s02,.bool n03,.string s03,.bool i1,.bool n10,.string s10,.bool n11,.string s11,.bool n12,.string s12,.bool n13,.string s13,.bool i2,.bool n20,.string s20,.bool n21,.string s21,.bool n22,.string s22,.bool n23,.string s23,.bool i3,.bool n30,.string s30,.bool n31,.string s31,.bool n32,.string s32,.bool n33,.string s33,.bool g00,.string t00,.bool g01,.string t01,.bool g02,.string t02,.bool g03,.string t03,.bool g10,.string t10,.bool g11,.string t11,.bool g12,.string t12,.bool g13,.string t13,.bool g20,.string t20,.bool g21,.string t21,.bool g22,.string t22,.bool g23,.string t23] = big1
 obtain ⟨x1,hx1⟩ : ∃ x,x = v1.alloc (.cells #[.bool false,.bool false,.string ⟨#[]⟩,.bool false,.string ⟨#[]⟩,.bool false,.string ⟨#[]⟩,.bool false,.string ⟨#[]⟩,.bool false,.bool false,.string ⟨#[]⟩,.bool false,.string ⟨#[]⟩,.bool false,.string ⟨#[]⟩,.bool false,.string ⟨#[]⟩,.bool false,.bool false,.string ⟨#[]⟩,.bool false,.string ⟨#[]⟩,.bool false,.string ⟨#[]⟩,.bool false,.string ⟨#[]⟩] 37) := ⟨_,rfl⟩
 have hb1 : Below w'.heap.size w' x1 := by rw [hx1]; exact alloc_tail hb
 have hr1 : x1.heap[v1.heap.size]? = some (.cells #[.bool false,.bool false,.string ⟨#[]⟩,.bool false,.string ⟨#[]⟩,.bool false,.string ⟨#[]⟩,.bool false,.string ⟨#[]⟩,.bool false,.bool false,.string ⟨#[]⟩,.bool false,.string ⟨#[]⟩,.bool false,.string ⟨#[]⟩,.bool false,.string ⟨#[]⟩,.bool false,.bool false,.string ⟨#[]⟩,.bool false,.string ⟨#[]⟩,.bool false,.string ⟨#[]⟩,.bool false,.string ⟨#[]⟩] 37 (0,0)) := by rw [hx1]; exact heap_alloc_new v1 _
 have hb2 : Below w'.heap.size w' (x1.setRow v1.heap.size #[.bool oi,.bool on1,.string os1,.bool on2,.string os2,.bool on3,.string os3,.bool on4,.string os4,.bool oi,.bool on1,.string os1,.bool on2,.string os2,.bool on3,.string os3,.bool on4,.string os4,.bool oi,.bool on1,.string os1,.bool on2,.string os2,.bool on3,.string os3,.bool on4,.string os4]) := below_setRow hb1 hb.size _
 have hr2 : (x1.setRow v1.heap.size #[.bool oi,.bool on1,.string os1,.bool on2,.string os2,.bool on3,.string os3,.bool on4,.string os4,.bool oi,.bool on1,.string os1,.bool on2,.string os2,.bool on3,.string os3,.bool on4,.string os4,.bool oi,.bool on1,.string os1,.bool on2,.string os2,.bool on3,.string os3,.bool on4,.string os4]).heap[v1.heap.size]? = some (.cells #[.bool oi,.bool on1,.string os1,.bool on2,.string os2,.bool on3,.string os3,.bool on4,.string os4,.bool oi,.bool on1,.string os1,.bool on2,.string os2,.bool on3,.string os3,.bool on4,.string os4,.bool oi,.bool on1,.string os1,.bool on2,.string os2,.bool on3,.string os3,.bool on4,.string os4] 37 (0,0)) := setRow_heap x1 v1.heap.size _ #[.bool oi,.bool on1,.string os1,.bool on2,.string os2,.bool on3,.string os3,.bool on4,.string os4,.bool oi,.bool on1,.string os1,.bool on2,.string os2,.bool on3,.string os3,.bool on4,.string os4,.bool oi,.bool on1,.string os1,.bool on2,.string os2,.bool on3,.string os3,.bool on4,.string os4] _ _ hr1
 obtain ⟨x2,hx2⟩ : ∃ x,x = x1.setRow v1.heap.size #[.bool oi,.bool on1,.string os1,.bool on2,.string os2,.bool on3,.string os3,.bool on4,.string os4,.bool oi,.bool on1,.string os1,.bool on2,.string os2,.bool on3,.string os3,.bool on4,.string os4,.bool oi,.bool on1,.string os1,.bool on2,.string os2,.bool on3,.string os3,.bool on4,.string os4] := ⟨_,rfl⟩
 rw [← hx2] at hb2 hr2
 have hg2 := (HV.out.2.2.2 x2 hb2).1
 have HX := Lib.hid (And.intro hx2 hx1)
 have HB2 := Lib.hid hb2
 rw [hx1] at hx2
 rw [hx1] at hr1
 rw [hx2] at hr2 hg2
 clear hx1 hb1 hb2 hb HFa_
 go_wp2_with (first
   | (refine wpList_store_row rfl 37 _ _ rfl v1.heap.size #[.bool oi,.bool on1,.string os1,.bool on2,.string os2,.bool on3,.string os3,.bool on4,.string os4,.bool oi,.bool on1,.string os1,.bool on2,.string os2,.bool on3,.string os3,.bool on4,.string os4,.bool oi,.bool on1,.string os1,.bool on2,.string os2,.bool on3,.string os3,.bool on4,.string os4] rfl rfl 37 _ hr1 (by kernel_rfl) (by kernel_rfl) (by kernel_rfl) ?_)
   | (refine wpList_load_part (by kernel_rfl) 29 _ rfl v1.heap.size 0 rfl 37 _ #[.bool oi,.bool on1,.string os1,.bool on2,.string os2,.bool on3,.string os3,.bool on4,.string os4] (0,0) _ hr2 Tryz.underlying29 rfl (by kernel_rfl) (by kernel_rfl) ?_)
   | (refine wpList_load_part (by kernel_rfl) 29 _ rfl v1.heap.size 9 rfl 37 _ #[.bool oi,.bool on1,.string os1,.bool on2,.string os2,.bool on3,.string os3,.bool on4,.string os4] (0,0) _ hr2 Tryz.underlying29 rfl (by kernel_rfl) (by kernel_rfl) ?_)
   | (refine wpList_load_part (by kernel_rfl) 29 _ rfl v1.heap.size 18 rfl 37 _ #[.bool oi,.bool on1,.string os1,.bool on2,.string os2,.bool on3,.string os3,.bool on4,.string os4] (0,0) _ hr2 Tryz.underlying29 rfl (by kernel_rfl) (by kernel_rfl) ?_)
   | (refine wpList_load_part (by kernel_rfl) 29 _ rfl w.heap.size 0 rfl 31 _ #[.bool i0,.bool n00,.string s00,.bool n01,.string s01,.bool n02,.string s02,.bool n03,.string s03] (0,0) _ hg2 Tryz.underlying29 rfl (by kernel_rfl) (by kernel_rfl) ?_)
   | (refine wpList_load_part (by kernel_rfl) 29 _ rfl w.heap.size 9 rfl 31 _ #[.bool i1,.bool n10,.string s10,.bool n11,.string s11,.bool n12,.string s12,.bool n13,.string s13] (0,0) _ hg2 Tryz.underlying29 rfl (by kernel_rfl) (by kernel_rfl) ?_)
   | (refine wpList_load_part (by kernel_rfl) 29 _ rfl w.heap.size 18 rfl 31 _ #[.bool i2,.bool n20,.string s20,.bool n21,.string s21,.bool n22,.string s22,.bool n23,.string s23] (0,0) _ hg2 Tryz.underlying29 rfl (by kernel_rfl) (by kernel_rfl) ?_)
   | (refine wpList_load_part (by kernel_rfl) 29 _ rfl w.heap.size 27 rfl 31 _ #[.bool i3,.bool n30,.string s30,.bool n31,.string s31,.bool n32,.string s32,.bool n33,.string s33] (0,0) _ hg2 Tryz.underlying29 rfl (by kernel_rfl) (by kernel_rfl) ?_)
   | (refine wpList_load_part (by kernel_rfl) 27 _ rfl w.heap.size 36 rfl 31 _ #[.bool g00,.string t00,.bool g01,.string t01,.bool g02,.string t02,.bool g03,.string t03] (0,0) _ hg2 Tryz.underlying27 rfl (by kernel_rfl) (by kernel_rfl) ?_))
 rw [← hx2]
 clear hr1 hr2 hg2 hx2
 refine (HCo_.out _).mono ?_
 rintro e v2 ⟨rfl,hb⟩
 have hb3 := HB2.out.trans (hb.mono HB2.out.size)
 have hb3w := alloc_tail (o := .cells #[.bool false,.bool false,.string ⟨#[]⟩,.bool false,.string ⟨#[]⟩,.bool false,.string ⟨#[]⟩,.bool false,.string ⟨#[]⟩] 29) hb3
 have HB3 := Lib.hid (HV.out.2.1.trans (hb3w.mono HV.out.2.1.size))
 clear hb hb3 hb3w HB2 HX HCo_
 rcases hkf with rfl | rfl | rfl
 all_goals (
  go_wp2_with fail
  refine (Known_any _).mono ?_
  rintro e y ⟨rfl,hb⟩
  have HBy := Lib.hid (HB3.out.trans (hb.mono HB3.out.size))
  clear hb
  go_wp2_with fail
  go_ret
  exact ⟨rfl,HBy.out⟩)
set_option maxRecDepth 100000 in
set_option maxHeartbeats 12800000 in
theorem law_oo (i0 i1 i2 i3 n00 n01 n02 n03 n10 n11 n12 n13 n20 n21 n22 n23 n30 n31 n32 n33 g00 g01 g02 g03 g10 g11 g12 g13 g20 g21 g22 g23 : Bool) (s00 s01 s02 s03 s10 s11 s12 s13 s20 s21 s22 s23 s30 s31 s32 s33 t00 t01 t02 t03 t10 t11 t12 t13 t20 t21 t22 t23 : ByteArray) (oi on1 on2 on3 on4 : Bool) (os1 os2 os3 os4 : ByteArray) (pi pn1 pn2 pn3 pn4 : Bool) (ps1 ps2 ps3 ps4 : ByteArray) (dn1 dn2 dn3 dn4 : Bool) (ds1 ds2 ds3 ds4 : ByteArray) (un1 un2 un3 un4 : Bool) (us1 us2 us3 us4 : ByteArray) (HFa : ∀ w,Calls Tryz.prog 8 #[.agg #[.bool i0,.bool n00,.string s00,.bool n01,.string s01,.bool n02,.string s02,.bool n03,.string s03,.bool i1,.bool n10,.string s10,.bool n11,.string s11,.bool n12,.string s12,.bool n13,.string s13,.bool i2,.bool n20,.string s20,.bool n21,.string s21,.bool n22,.string s22,.bool n23,.string s23,.bool i3,.bool n30,.string s30,.bool n31,.string s31,.bool n32,.string s32,.bool n33,.string s33,.bool g00,.string t00,.bool g01,.string t01,.bool g02,.string t02,.bool g03,.string t03,.bool g10,.string t10,.bool g11,.string t11,.bool g12,.string t12,.bool g13,.string t13,.bool g20,.string t20,.bool g21,.string t21,.bool g22,.string t22,.bool g23,.string t23]] w fun e w' => e = .returned (.tuple #[.agg #[.bool oi,.bool on1,.string os1,.bool on2,.string os2,.bool on3,.string os3,.bool on4,.string os4,.bool oi,.bool on1,.string os1,.bool on2,.string os2,.bool on3,.string os3,.bool on4,.string os4,.bool oi,.bool on1,.string os1,.bool on2,.string os2,.bool on3,.string os3,.bool on4,.string os4],.int .i64 0]) ∧ Below w.heap.size w w') (HCo : ∀ w,Calls Tryz.prog 10 #[.agg #[.bool i0,.bool n00,.string s00,.bool n01,.string s01,.bool n02,.string s02,.bool n03,.string s03],.agg #[.bool i1,.bool n10,.string s10,.bool n11,.string s11,.bool n12,.string s12,.bool n13,.string s13],.agg #[.bool i2,.bool n20,.string s20,.bool n21,.string s21,.bool n22,.string s22,.bool n23,.string s23],.agg #[.bool g00,.string t00,.bool g01,.string t01,.bool g02,.string t02,.bool g03,.string t03]] w fun e w' => e = .returned (.tuple #[.agg #[.bool pi,.bool pn1,.string ps1,.bool pn2,.string ps2,.bool pn3,.string ps3,.bool pn4,.string ps4],.int .i64 0]) ∧ Below w.heap.size w w') (HRa : ∀ w,Calls Tryz.prog 12 #[.agg #[.bool i0,.bool n00,.string s00,.bool n01,.string s01,.bool n02,.string s02,.bool n03,.string s03],.agg #[.bool i1,.bool n10,.string s10,.bool n11,.string s11,.bool n12,.string s12,.bool n13,.string s13],.agg #[.bool pi,.bool pn1,.string ps1,.bool pn2,.string ps2,.bool pn3,.string ps3,.bool pn4,.string ps4],.agg #[.bool i2,.bool n20,.string s20,.bool n21,.string s21,.bool n22,.string s22,.bool n23,.string s23]] w fun e w' => e = .returned (.tuple #[.agg #[.bool false,.bool g00,.string t00,.bool g01,.string t01,.bool g02,.string t02,.bool g03,.string t03],.int .i64 0]) ∧ Below w.heap.size w w') (HIn : ∀ w,Calls Tryz.prog 14 #[.int .i64 1,.int .i64 0] w fun e w' => e = .returned (.agg #[.bool un1,.string us1,.bool un2,.string us2,.bool un3,.string us3,.bool un4,.string us4]) ∧ Below w.heap.size w w') (HDi : ∀ w,Calls Tryz.prog 13 #[.agg #[.bool un1,.string us1,.bool un2,.string us2,.bool un3,.string us3,.bool un4,.string us4],.agg #[.bool g00,.string t00,.bool g01,.string t01,.bool g02,.string t02,.bool g03,.string t03]] w fun e w' => e = .returned (.tuple #[.agg #[.bool dn1,.string ds1,.bool dn2,.string ds2,.bool dn3,.string ds3,.bool dn4,.string ds4],.int .i64 0]) ∧ Below w.heap.size w w') (HCp : ∀ w,Calls Tryz.prog 10 #[.agg #[.bool i0,.bool n00,.string s00,.bool n01,.string s01,.bool n02,.string s02,.bool n03,.string s03],.agg #[.bool i2,.bool n20,.string s20,.bool n21,.string s21,.bool n22,.string s22,.bool n23,.string s23],.agg #[.bool i1,.bool n10,.string s10,.bool n11,.string s11,.bool n12,.string s12,.bool n13,.string s13],.agg #[.bool dn1,.string ds1,.bool dn2,.string ds2,.bool dn3,.string ds3,.bool dn4,.string ds4]] w fun e w' => e = .returned (.tuple #[.agg #[.bool pi,.bool pn1,.string ps1,.bool pn2,.string ps2,.bool pn3,.string ps3,.bool pn4,.string ps4],.int .i64 0]) ∧ Below w.heap.size w w') (hn0 : Value.agg #[.bool pi,.bool pn1,.string ps1,.bool pn2,.string ps2,.bool pn3,.string ps3,.bool pn4,.string ps4] ≠ .agg #[.bool i0,.bool n00,.string s00,.bool n01,.string s01,.bool n02,.string s02,.bool n03,.string s03]) (hn1 : Value.agg #[.bool pi,.bool pn1,.string ps1,.bool pn2,.string ps2,.bool pn3,.string ps3,.bool pn4,.string ps4] ≠ .agg #[.bool i1,.bool n10,.string s10,.bool n11,.string s11,.bool n12,.string s12,.bool n13,.string s13]) (hn2 : Value.agg #[.bool pi,.bool pn1,.string ps1,.bool pn2,.string ps2,.bool pn3,.string ps3,.bool pn4,.string ps4] ≠ .agg #[.bool i2,.bool n20,.string s20,.bool n21,.string s21,.bool n22,.string s22,.bool n23,.string s23]) (w : World) :
  Calls Tryz.prog 4 #[.agg #[.bool i0,.bool n00,.string s00,.bool n01,.string s01,.bool n02,.string s02,.bool n03,.string s03,.bool i1,.bool n10,.string s10,.bool n11,.string s11,.bool n12,.string s12,.bool n13,.string s13,.bool i2,.bool n20,.string s20,.bool n21,.string s21,.bool n22,.string s22,.bool n23,.string s23,.bool i3,.bool n30,.string s30,.bool n31,.string s31,.bool n32,.string s32,.bool n33,.string s33,.bool g00,.string t00,.bool g01,.string t01,.bool g02,.string t02,.bool g03,.string t03,.bool g10,.string t10,.bool g11,.string t11,.bool g12,.string t12,.bool g13,.string t13,.bool g20,.string t20,.bool g21,.string t21,.bool g22,.string t22,.bool g23,.string t23]] w fun e w' => e = .returned (.bool true) ∧ Below w.heap.size w w' := by
 have HFa_ := Lib.hid HFa
 have HCo_ := Lib.hid HCo
 have HRa_ := Lib.hid HRa
 have HIn_ := Lib.hid HIn
 have HDi_ := Lib.hid HDi
 have HCp_ := Lib.hid HCp
 clear HFa HCo HRa HIn HDi HCp
 obtain ⟨W,HV⟩ := lwbox w (.bool i0) (.bool n00) (.string s00) (.bool n01) (.string s01) (.bool n02) (.string s02) (.bool n03) (.string s03) (.bool i1) (.bool n10) (.string s10) (.bool n11) (.string s11) (.bool n12) (.string s12) (.bool n13) (.string s13) (.bool i2) (.bool n20) (.string s20) (.bool n21) (.string s21) (.bool n22) (.string s22) (.bool n23) (.string s23) (.bool i3) (.bool n30) (.string s30) (.bool n31) (.string s31) (.bool n32) (.string s32) (.bool n33) (.string s33) (.bool g00) (.string t00) (.bool g01) (.string t01) (.bool g02) (.string t02) (.bool g03) (.string t03) (.bool g10) (.string t10) (.bool g11) (.string t11) (.bool g12) (.string t12) (.bool g13) (.string t13) (.bool g20) (.string t20) (.bool g21) (.string t21) (.bool g22) (.string t22) (.bool g23) (.string t23) (.bool n00) (.string s00) (.bool n01) (.string s01) (.bool n02) (.string s02) (.bool n03) (.string s03) (.bool n10) (.string s10) (.bool n11) (.string s11) (.bool n12) (.string s12) (.bool n13) (.string s13) (.bool n20) (.string s20) (.bool n21) (.string s21) (.bool n22) (.string s22) (.bool n23) (.string s23) (.bool n30) (.string s30) (.bool n31) (.string s31) (.bool n32) (.string s32) (.bool n33) (.string s33) (.bool g00) (.string t00) (.bool g01) (.string t01) (.bool g02) (.string t02) (.bool g03) (.string t03) (.bool g10) (.string t10) (.bool g11) (.string t11) (.bool g12) (.string t12) (.bool g13) (.string t13) (.bool g20) (.string t20) (.bool g21) (.string t21) (.bool g22) (.string t22) (.bool g23) (.string t23)
 have hgc : (w.alloc (.cells #[.bool i0,.bool n00,.string s00,.bool n01,.string s01,.bool n02,.string s02,.bool n03,.string s03,.bool i1,.bool n10,.string s10,.bool n11,.string s11,.bool n12,.string s12,.bool n13,.string s13,.bool i2,.bool n20,.string s20,.bool n21,.string s21,.bool n22,.string s22,.bool n23,.string s23,.bool i3,.bool n30,.string s30,.bool n31,.string s31,.bool n32,.string s32,.bool n33,.string s33,.bool g00,.string t00,.bool g01,.string t01,.bool g02,.string t02,.bool g03,.string t03,.bool g10,.string t10,.bool g11,.string t11,.bool g12,.string t12,.bool g13,.string t13,.bool g20,.string t20,.bool g21,.string t21,.bool g22,.string t22,.bool g23,.string t23] 31)).heap[w.heap.size]? = some (.cells #[.bool i0,.bool n00,.string s00,.bool n01,.string s01,.bool n02,.string s02,.bool n03,.string s03,.bool i1,.bool n10,.string s10,.bool n11,.string s11,.bool n12,.string s12,.bool n13,.string s13,.bool i2,.bool n20,.string s20,.bool n21,.string s21,.bool n22,.string s22,.bool n23,.string s23,.bool i3,.bool n30,.string s30,.bool n31,.string s31,.bool n32,.string s32,.bool n33,.string s33,.bool g00,.string t00,.bool g01,.string t01,.bool g02,.string t02,.bool g03,.string t03,.bool g10,.string t10,.bool g11,.string t11,.bool g12,.string t12,.bool g13,.string t13,.bool g20,.string t20,.bool g21,.string t21,.bool g22,.string t22,.bool g23,.string t23] 31 (0,0)) := heap_alloc_new w _
 go_enter Tryz.func4,Tryz.ntmps4
 go_wp2_with (first
   | (refine Go.Great.wpList_boxTo rfl 31 _ rfl (some 1) rfl w.heap.size rfl _ rfl ?_)
   | (refine wpList_load_part (by kernel_rfl) 27 _ rfl w.heap.size 1 rfl 31 _ #[.bool n00,.string s00,.bool n01,.string s01,.bool n02,.string s02,.bool n03,.string s03] (0,0) _ hgc Tryz.underlying27 rfl (by kernel_rfl) (by kernel_rfl) ?_)
   | (refine wpList_load_part (by kernel_rfl) 27 _ rfl w.heap.size 10 rfl 31 _ #[.bool n10,.string s10,.bool n11,.string s11,.bool n12,.string s12,.bool n13,.string s13] (0,0) _ hgc Tryz.underlying27 rfl (by kernel_rfl) (by kernel_rfl) ?_)
   | (refine wpList_load_part (by kernel_rfl) 27 _ rfl w.heap.size 19 rfl 31 _ #[.bool n20,.string s20,.bool n21,.string s21,.bool n22,.string s22,.bool n23,.string s23] (0,0) _ hgc Tryz.underlying27 rfl (by kernel_rfl) (by kernel_rfl) ?_)
   | (refine wpList_load_part (by kernel_rfl) 27 _ rfl w.heap.size 28 rfl 31 _ #[.bool n30,.string s30,.bool n31,.string s31,.bool n32,.string s32,.bool n33,.string s33] (0,0) _ hgc Tryz.underlying27 rfl (by kernel_rfl) (by kernel_rfl) ?_)
   | (refine wpList_load_part (by kernel_rfl) 27 _ rfl w.heap.size 36 rfl 31 _ #[.bool g00,.string t00,.bool g01,.string t01,.bool g02,.string t02,.bool g03,.string t03] (0,0) _ hgc Tryz.underlying27 rfl (by kernel_rfl) (by kernel_rfl) ?_)
   | (refine wpList_load_part (by kernel_rfl) 27 _ rfl w.heap.size 44 rfl 31 _ #[.bool g10,.string t10,.bool g11,.string t11,.bool g12,.string t12,.bool g13,.string t13] (0,0) _ hgc Tryz.underlying27 rfl (by kernel_rfl) (by kernel_rfl) ?_)
   | (refine wpList_load_part (by kernel_rfl) 27 _ rfl w.heap.size 52 rfl 31 _ #[.bool g20,.string t20,.bool g21,.string t21,.bool g22,.string t22,.bool g23,.string t23] (0,0) _ hgc Tryz.underlying27 rfl (by kernel_rfl) (by kernel_rfl) ?_))
 try simp only [Nat.add_assoc,Nat.reduceAdd]
 rw [← HV.out.1]
 clear hgc
 refine (wide_any n00 n01 n02 n03 n10 n11 n12 n13 n20 n21 n22 n23 n30 n31 n32 n33 g00 g01 g02 g03 g10 g11 g12 g13 g20 g21 g22 g23 s00 s01 s02 s03 s10 s11 s12 s13 s20 s21 s22 s23 s30 s31 s32 s33 t00 t01 t02 t03 t10 t11 t12 t13 t20 t21 t22 t23 (w.heap.size + 1) W (HV.out.2.2.2 W br).2).mono ?_
 rintro e w' ⟨r,rfl,rfl,hr⟩
 generalize Value.agg #[.bool i0,.bool n00,.string s00,.bool n01,.string s01,.bool n02,.string s02,.bool n03,.string s03,.bool i1,.bool n10,.string s10,.bool n11,.string s11,.bool n12,.string s12,.bool n13,.string s13,.bool i2,.bool n20,.string s20,.bool n21,.string s21,.bool n22,.string s22,.bool n23,.string s23,.bool i3,.bool n30,.string s30,.bool n31,.string s31,.bool n32,.string s32,.bool n33,.string s33,.bool g00,.string t00,.bool g01,.string t01,.bool g02,.string t02,.bool g03,.string t03,.bool g10,.string t10,.bool g11,.string t11,.bool g12,.string t12,.bool g13,.string t13,.bool g20,.string t20,.bool g21,.string t21,.bool g22,.string t22,.bool g23,.string t23] = big0
 cases r
 case true =>
  go_wp2_with fail
  refine (Known_any _).mono ?_
  rintro e y ⟨rfl,hb⟩
  have HBy := Lib.hid (HV.out.2.1.trans (hb.mono HV.out.2.1.size))
  clear hb
  go_wp2_with fail
  go_ret
  exact ⟨rfl,HBy.out⟩
 clear hr
 have hg0 := (HV.out.2.2.2 w' br).1
 go_wp2_with (refine wpList_load_row rfl 31 _ rfl (w.heap.size) rfl 31 _ (0,0) _ hg0 Tryz.underlying31 rfl (by kernel_rfl) ?_)
 clear hg0
 refine (HFa_.out _).mono ?_
 rintro e v1 ⟨rfl,hb⟩
 generalize Value.agg #[.bool i0,.bool n00,.string s00,.bool n01,.string s01,.bool n02,.string s02,.bool n03,.string s03,.bool i1,.bool n10,.string s10,.bool n11,.string s11,.bool n12,.string s12,.bool n13,.string s13,.bool i2,.bool n20,.string s20,.bool n21,.string s21,.bool n22,.string s22,.bool n23,.string s23,.bool i3,.bool n30,.string s30,.bool n31,.string s31,.bool n32,.string s32,.bool n33,.string s33,.bool g00,.string t00,.bool g01,.string t01,.bool g02,.string t02,.bool g03,.string t03,.bool g10,.string t10,.bool g11,.string t11,.bool g12,.string t12,.bool g13,.string t13,.bool g20,.string t20,.bool g21,.string t21,.bool g22,.string t22,.bool g23,.string t23] = big1
 obtain ⟨x1,hx1⟩ : ∃ x,x = v1.alloc (.cells #[.bool false,.bool false,.string ⟨#[]⟩,.bool false,.string ⟨#[]⟩,.bool false,.string ⟨#[]⟩,.bool false,.string ⟨#[]⟩,.bool false,.bool false,.string ⟨#[]⟩,.bool false,.string ⟨#[]⟩,.bool false,.string ⟨#[]⟩,.bool false,.string ⟨#[]⟩,.bool false,.bool false,.string ⟨#[]⟩,.bool false,.string ⟨#[]⟩,.bool false,.string ⟨#[]⟩,.bool false,.string ⟨#[]⟩] 37) := ⟨_,rfl⟩
 have hb1 : Below w'.heap.size w' x1 := by rw [hx1]; exact alloc_tail hb
 have hr1 : x1.heap[v1.heap.size]? = some (.cells #[.bool false,.bool false,.string ⟨#[]⟩,.bool false,.string ⟨#[]⟩,.bool false,.string ⟨#[]⟩,.bool false,.string ⟨#[]⟩,.bool false,.bool false,.string ⟨#[]⟩,.bool false,.string ⟨#[]⟩,.bool false,.string ⟨#[]⟩,.bool false,.string ⟨#[]⟩,.bool false,.bool false,.string ⟨#[]⟩,.bool false,.string ⟨#[]⟩,.bool false,.string ⟨#[]⟩,.bool false,.string ⟨#[]⟩] 37 (0,0)) := by rw [hx1]; exact heap_alloc_new v1 _
 have hb2 : Below w'.heap.size w' (x1.setRow v1.heap.size #[.bool oi,.bool on1,.string os1,.bool on2,.string os2,.bool on3,.string os3,.bool on4,.string os4,.bool oi,.bool on1,.string os1,.bool on2,.string os2,.bool on3,.string os3,.bool on4,.string os4,.bool oi,.bool on1,.string os1,.bool on2,.string os2,.bool on3,.string os3,.bool on4,.string os4]) := below_setRow hb1 hb.size _
 have hr2 : (x1.setRow v1.heap.size #[.bool oi,.bool on1,.string os1,.bool on2,.string os2,.bool on3,.string os3,.bool on4,.string os4,.bool oi,.bool on1,.string os1,.bool on2,.string os2,.bool on3,.string os3,.bool on4,.string os4,.bool oi,.bool on1,.string os1,.bool on2,.string os2,.bool on3,.string os3,.bool on4,.string os4]).heap[v1.heap.size]? = some (.cells #[.bool oi,.bool on1,.string os1,.bool on2,.string os2,.bool on3,.string os3,.bool on4,.string os4,.bool oi,.bool on1,.string os1,.bool on2,.string os2,.bool on3,.string os3,.bool on4,.string os4,.bool oi,.bool on1,.string os1,.bool on2,.string os2,.bool on3,.string os3,.bool on4,.string os4] 37 (0,0)) := setRow_heap x1 v1.heap.size _ #[.bool oi,.bool on1,.string os1,.bool on2,.string os2,.bool on3,.string os3,.bool on4,.string os4,.bool oi,.bool on1,.string os1,.bool on2,.string os2,.bool on3,.string os3,.bool on4,.string os4,.bool oi,.bool on1,.string os1,.bool on2,.string os2,.bool on3,.string os3,.bool on4,.string os4] _ _ hr1
 obtain ⟨x2,hx2⟩ : ∃ x,x = x1.setRow v1.heap.size #[.bool oi,.bool on1,.string os1,.bool on2,.string os2,.bool on3,.string os3,.bool on4,.string os4,.bool oi,.bool on1,.string os1,.bool on2,.string os2,.bool on3,.string os3,.bool on4,.string os4,.bool oi,.bool on1,.string os1,.bool on2,.string os2,.bool on3,.string os3,.bool on4,.string os4] := ⟨_,rfl⟩
 rw [← hx2] at hb2 hr2
 have hg2 := (HV.out.2.2.2 x2 hb2).1
 have HX := Lib.hid (And.intro hx2 hx1)
 have HB2 := Lib.hid hb2
 rw [hx1] at hx2
 rw [hx1] at hr1
 rw [hx2] at hr2 hg2
 clear hx1 hb1 hb2 hb HFa_
 go_wp2_with (first
   | (refine wpList_store_row rfl 37 _ _ rfl v1.heap.size #[.bool oi,.bool on1,.string os1,.bool on2,.string os2,.bool on3,.string os3,.bool on4,.string os4,.bool oi,.bool on1,.string os1,.bool on2,.string os2,.bool on3,.string os3,.bool on4,.string os4,.bool oi,.bool on1,.string os1,.bool on2,.string os2,.bool on3,.string os3,.bool on4,.string os4] rfl rfl 37 _ hr1 (by kernel_rfl) (by kernel_rfl) (by kernel_rfl) ?_)
   | (refine wpList_load_part (by kernel_rfl) 29 _ rfl v1.heap.size 0 rfl 37 _ #[.bool oi,.bool on1,.string os1,.bool on2,.string os2,.bool on3,.string os3,.bool on4,.string os4] (0,0) _ hr2 Tryz.underlying29 rfl (by kernel_rfl) (by kernel_rfl) ?_)
   | (refine wpList_load_part (by kernel_rfl) 29 _ rfl v1.heap.size 9 rfl 37 _ #[.bool oi,.bool on1,.string os1,.bool on2,.string os2,.bool on3,.string os3,.bool on4,.string os4] (0,0) _ hr2 Tryz.underlying29 rfl (by kernel_rfl) (by kernel_rfl) ?_)
   | (refine wpList_load_part (by kernel_rfl) 29 _ rfl v1.heap.size 18 rfl 37 _ #[.bool oi,.bool on1,.string os1,.bool on2,.string os2,.bool on3,.string os3,.bool on4,.string os4] (0,0) _ hr2 Tryz.underlying29 rfl (by kernel_rfl) (by kernel_rfl) ?_)
   | (refine wpList_load_part (by kernel_rfl) 29 _ rfl w.heap.size 0 rfl 31 _ #[.bool i0,.bool n00,.string s00,.bool n01,.string s01,.bool n02,.string s02,.bool n03,.string s03] (0,0) _ hg2 Tryz.underlying29 rfl (by kernel_rfl) (by kernel_rfl) ?_)
   | (refine wpList_load_part (by kernel_rfl) 29 _ rfl w.heap.size 9 rfl 31 _ #[.bool i1,.bool n10,.string s10,.bool n11,.string s11,.bool n12,.string s12,.bool n13,.string s13] (0,0) _ hg2 Tryz.underlying29 rfl (by kernel_rfl) (by kernel_rfl) ?_)
   | (refine wpList_load_part (by kernel_rfl) 29 _ rfl w.heap.size 18 rfl 31 _ #[.bool i2,.bool n20,.string s20,.bool n21,.string s21,.bool n22,.string s22,.bool n23,.string s23] (0,0) _ hg2 Tryz.underlying29 rfl (by kernel_rfl) (by kernel_rfl) ?_)
   | (refine wpList_load_part (by kernel_rfl) 29 _ rfl w.heap.size 27 rfl 31 _ #[.bool i3,.bool n30,.string s30,.bool n31,.string s31,.bool n32,.string s32,.bool n33,.string s33] (0,0) _ hg2 Tryz.underlying29 rfl (by kernel_rfl) (by kernel_rfl) ?_)
   | (refine wpList_load_part (by kernel_rfl) 27 _ rfl w.heap.size 36 rfl 31 _ #[.bool g00,.string t00,.bool g01,.string t01,.bool g02,.string t02,.bool g03,.string t03] (0,0) _ hg2 Tryz.underlying27 rfl (by kernel_rfl) (by kernel_rfl) ?_))
 rw [← hx2]
 clear hr1 hr2 hg2 hx2
 refine (HCo_.out _).mono ?_
 rintro e v2 ⟨rfl,hb⟩
 have hb3 := HB2.out.trans (hb.mono HB2.out.size)
 obtain ⟨x3,hx3⟩ : ∃ x,x = v2.alloc (.cells #[.bool pi,.bool pn1,.string ps1,.bool pn2,.string ps2,.bool pn3,.string ps3,.bool pn4,.string ps4] 29) := ⟨_,rfl⟩
 have hb4 : Below w'.heap.size w' x3 := by rw [hx3]; exact alloc_tail hb3
 have hr3 : x3.heap[v2.heap.size]? = some (.cells #[.bool pi,.bool pn1,.string ps1,.bool pn2,.string ps2,.bool pn3,.string ps3,.bool pn4,.string ps4] 29 (0,0)) := by rw [hx3]; exact heap_alloc_new v2 _
 have hl3 : v2.heap.size < x3.heap.size := (Array.getElem?_eq_some_iff.1 hr3).1
 have hg3 := (HV.out.2.2.2 x3 hb4).1
 have HX3 := Lib.hid (And.intro hb4 (And.intro hr3 hl3))
 rw [hx3] at hr3 hg3
 clear hb hb3 hb4 hl3 HB2 HX HCo_
 go_wp2_with (first
   | (refine wpList_load_part (by kernel_rfl) 29 _ rfl v2.heap.size 0 rfl 29 _ #[.bool pi,.bool pn1,.string ps1,.bool pn2,.string ps2,.bool pn3,.string ps3,.bool pn4,.string ps4] (0,0) _ hr3 Tryz.underlying29 rfl (by kernel_rfl) (by kernel_rfl) ?_)
   | (refine wpList_load_part (by kernel_rfl) 29 _ rfl w.heap.size 0 rfl 31 _ #[.bool i0,.bool n00,.string s00,.bool n01,.string s01,.bool n02,.string s02,.bool n03,.string s03] (0,0) _ hg3 Tryz.underlying29 rfl (by kernel_rfl) (by kernel_rfl) ?_)
   | (refine wpList_load_part (by kernel_rfl) 29 _ rfl w.heap.size 9 rfl 31 _ #[.bool i1,.bool n10,.string s10,.bool n11,.string s11,.bool n12,.string s12,.bool n13,.string s13] (0,0) _ hg3 Tryz.underlying29 rfl (by kernel_rfl) (by kernel_rfl) ?_)
   | (refine wpList_load_part (by kernel_rfl) 29 _ rfl w.heap.size 18 rfl 31 _ #[.bool i2,.bool n20,.string s20,.bool n21,.string s21,.bool n22,.string s22,.bool n23,.string s23] (0,0) _ hg3 Tryz.underlying29 rfl (by kernel_rfl) (by kernel_rfl) ?_)
   | (refine wpList_load_part (by kernel_rfl) 29 _ rfl w.heap.size 27 rfl 31 _ #[.bool i3,.bool n30,.string s30,.bool n31,.string s31,.bool n32,.string s32,.bool n33,.string s33] (0,0) _ hg3 Tryz.underlying29 rfl (by kernel_rfl) (by kernel_rfl) ?_)
   | (refine wpList_load_part (by kernel_rfl) 27 _ rfl w.heap.size 36 rfl 31 _ #[.bool g00,.string t00,.bool g01,.string t01,.bool g02,.string t02,.bool g03,.string t03] (0,0) _ hg3 Tryz.underlying27 rfl (by kernel_rfl) (by kernel_rfl) ?_))
 rw [← hx3]
 clear hr3 hg3 hx3
 refine (HRa_.out _).mono ?_
 rintro e v3 ⟨rfl,hb⟩
 obtain ⟨x4,hx4⟩ : ∃ x,x = v3.alloc (.cells #[.bool false,.bool g00,.string t00,.bool g01,.string t01,.bool g02,.string t02,.bool g03,.string t03] 29) := ⟨_,rfl⟩
 have hr4 : x4.heap[v3.heap.size]? = some (.cells #[.bool false,.bool g00,.string t00,.bool g01,.string t01,.bool g02,.string t02,.bool g03,.string t03] 29 (0,0)) := by rw [hx4]; exact heap_alloc_new v3 _
 have hl4 : v3.heap.size < x4.heap.size := (Array.getElem?_eq_some_iff.1 hr4).1
 have hb4 : Below x3.heap.size x3 x4 := by rw [hx4]; exact alloc_tail hb
 have hp4 : x4.heap[v2.heap.size]? = some (.cells #[.bool pi,.bool pn1,.string ps1,.bool pn2,.string ps2,.bool pn3,.string ps3,.bool pn4,.string ps4] 29 (0,0)) := (hb4.block _ HX3.out.2.2).trans HX3.out.2.1
 have hw4 : Below w'.heap.size w' x4 := HX3.out.1.trans (hb4.mono HX3.out.1.size)
 have HX4 := Lib.hid (And.intro hw4 (And.intro hp4 (And.intro hr4 hl4)))
 clear hb hb4 hp4 hw4 hr4 hl4 HX3 HRa_
 go_wp2_with fail
 rw [← hx4]
 clear hx4
 have hg4 : x4.drew.heap[w.heap.size]? = some (.cells #[.bool i0,.bool n00,.string s00,.bool n01,.string s01,.bool n02,.string s02,.bool n03,.string s03,.bool i1,.bool n10,.string s10,.bool n11,.string s11,.bool n12,.string s12,.bool n13,.string s13,.bool i2,.bool n20,.string s20,.bool n21,.string s21,.bool n22,.string s22,.bool n23,.string s23,.bool i3,.bool n30,.string s30,.bool n31,.string s31,.bool n32,.string s32,.bool n33,.string s33,.bool g00,.string t00,.bool g01,.string t01,.bool g02,.string t02,.bool g03,.string t03,.bool g10,.string t10,.bool g11,.string t11,.bool g12,.string t12,.bool g13,.string t13,.bool g20,.string t20,.bool g21,.string t21,.bool g22,.string t22,.bool g23,.string t23] 31 (0,0)) := (HV.out.2.2.2 x4 HX4.out.1).1
 have hs4 : w.heap.size < x4.drew.heap.size := (Array.getElem?_eq_some_iff.1 hg4).1
 refine wp_region_own [(.val,[]),(.lit,[]),(.lit,[]),(.val,[0]),(.val,[3]),(.val,[4]),(.val,[4]),(.new (.cells #[.bool false,.string ⟨#[]⟩,.bool false,.string ⟨#[]⟩,.bool false,.string ⟨#[]⟩,.bool false,.string ⟨#[]⟩] 27 (0,0)),[]),(.st 7 (.cells #[.bool false,.string ⟨#[]⟩,.bool false,.string ⟨#[]⟩,.bool false,.string ⟨#[]⟩,.bool false,.string ⟨#[]⟩] 27 (0,0)),[5])]
  (pickF [(0,fun v _ _ => v = .agg #[.bool un1,.string us1,.bool un2,.string us2,.bool un3,.string us3,.bool un4,.string us4]),(3,fun v _ _ => v = .tuple #[.agg #[.bool dn1,.string ds1,.bool dn2,.string ds2,.bool dn3,.string ds3,.bool dn4,.string ds4],.int .i64 0]),(4,fun v _ _ => v = .tuple #[.agg #[.bool dn1,.string ds1,.bool dn2,.string ds2,.bool dn3,.string ds3,.bool dn4,.string ds4],.int .i64 0]),(5,fun v _ _ => v = .agg #[.bool dn1,.string ds1,.bool dn2,.string ds2,.bool dn3,.string ds3,.bool dn4,.string ds4]),(6,fun v _ _ => v = .int .i64 0),(8,RowB #[.bool dn1,.string ds1,.bool dn2,.string ds2,.bool dn3,.string ds3,.bool dn4,.string ds4] 27)]) (by kernel_rfl) ?_ ?_ ?_ (by simp) (by kernel_rfl)
 ·exact keeps_pick (by
   simp only [List.mem_cons,List.not_mem_nil,or_false]
   rintro p (rfl | rfl | rfl | rfl | rfl | rfl)
   ·exact keeps_pure _
   ·exact keeps_pure _
   ·exact keeps_pure _
   ·exact keeps_pure _
   ·exact keeps_pure _
   ·exact RowB.keeps _ _)
 rotate_left
 ·intro q hq z hz
  have : z = .cells #[.bool false,.string ⟨#[]⟩,.bool false,.string ⟨#[]⟩,.bool false,.string ⟨#[]⟩,.bool false,.string ⟨#[]⟩] 27 (0,0) := by
   simp only [List.mem_cons,List.not_mem_nil,or_false] at hq
   rcases hq with rfl | rfl | rfl | rfl | rfl | rfl | rfl | rfl | rfl <;> simp at hz <;> exact hz.symm
  rw [this]; exact noW_plain _ rfl
 refine ⟨fun f w1 A1 k1 hA hN hd K hK => by
  go_simp
  refine (HIn_.out w1).mono ?_
  rintro e y ⟨rfl,hb⟩
  exact hK _ _ hb rfl,?_⟩
 simp only [Act.put,nrA,nrB,nrC,Nat.reduceAdd]
 refine ⟨_,fun f w1 h1 => by (go_simp; rfl),?_⟩
 simp only [Act.put,nrA,nrB,nrC,Nat.reduceAdd]
 refine ⟨_,fun f w1 h1 => exec_load_part 27 _ rfl w.heap.size 36 rfl 31 _ #[.bool g00,.string t00,.bool g01,.string t01,.bool g02,.string t02,.bool g03,.string t03] (0,0) _ ((h1.block _ hs4).trans hg4) Tryz.underlying27 rfl (by kernel_rfl) (by kernel_rfl),?_⟩
 simp only [Act.put,nrA,nrB,nrC,Nat.reduceAdd]
 refine ⟨fun f w1 A1 k1 hA hN hd K hK => by
  have i : f 0 = .agg #[.bool un1,.string us1,.bool un2,.string us2,.bool un3,.string us3,.bool un4,.string us4] := hd 0 (by simp)
  simp only [i] at hK ⊢
  go_simp
  refine (HDi_.out w1).mono ?_
  rintro e y ⟨rfl,hb⟩
  exact hK _ _ hb rfl,?_⟩
 simp only [Act.put,nrA,nrB,nrC,Nat.reduceAdd]
 refine ⟨fun f w1 A1 k1 hA hN hd K hK => by
  have i : f 3 = .tuple #[.agg #[.bool dn1,.string ds1,.bool dn2,.string ds2,.bool dn3,.string ds3,.bool dn4,.string ds4],.int .i64 0] := hd 3 (by simp)
  simp only [i] at hK ⊢
  go_simp
  exact hK _ _ br rfl,?_⟩
 simp only [Act.put,nrA,nrB,nrC,Nat.reduceAdd]
 refine ⟨fun f w1 A1 k1 hA hN hd K hK => by
  have i : f 4 = .tuple #[.agg #[.bool dn1,.string ds1,.bool dn2,.string ds2,.bool dn3,.string ds3,.bool dn4,.string ds4],.int .i64 0] := hd 4 (by simp)
  simp only [i] at hK ⊢
  go_simp
  exact hK _ _ br rfl,?_⟩
 simp only [Act.put,nrA,nrB,nrC,Nat.reduceAdd]
 refine ⟨fun f w1 A1 k1 hA hN hd K hK => by
  have i : f 4 = .tuple #[.agg #[.bool dn1,.string ds1,.bool dn2,.string ds2,.bool dn3,.string ds3,.bool dn4,.string ds4],.int .i64 0] := hd 4 (by simp)
  simp only [i] at hK ⊢
  go_simp
  exact hK _ _ br rfl,?_⟩
 simp only [Act.put,nrA,nrB,nrC,Nat.reduceAdd]
 refine ⟨fun f w => by go_simp,?_⟩
 simp only [Act.put,nrA,nrB,nrC,Nat.reduceAdd]
 refine ⟨fun f w1 A1 m k1 hA hN hAm hm0 e hz hd K hK => by
  have i : f 5 = .agg #[.bool dn1,.string ds1,.bool dn2,.string ds2,.bool dn3,.string ds3,.bool dn4,.string ds4] := hd 5 (by simp)
  simp only [e,i] at hK ⊢
  have y0 := cell_at (o := 0) hz rfl
  have y1 := cell_at (o := 1) hz rfl
  have y2 := cell_at (o := 2) hz rfl
  have y3 := cell_at (o := 3) hz rfl
  have y4 := cell_at (o := 4) hz rfl
  have y5 := cell_at (o := 5) hz rfl
  have y6 := cell_at (o := 6) hz rfl
  have y7 := cell_at (o := 7) hz rfl
  go_simp
  refine hK _ ?_ ⟨m,rfl,by simp,set8_part hz (by rfl)⟩
  exact (((((((((Mod.refl m w1).setCell 0 _).setCell 1 _).setCell 2 _).setCell 3 _).setCell 4 _).setCell 5 _).setCell 6 _).setCell 7 _),?_⟩
 intro f v4 A1 h4 hA1 hfr hap hF
 obtain ⟨m4,em,_,hr5⟩ : RowB #[.bool dn1,.string ds1,.bool dn2,.string ds2,.bool dn3,.string ds3,.bool dn4,.string ds4] 27 (f 7) v4 A1 := hF.2
 have iC : f 6 = .int .i64 0 := hF.1.2
 clear hF hap hA1 hfr
 dsimp only
 rw [em,iC]
 generalize f 0 = f0
 generalize f 3 = f3
 generalize f 4 = f4
 generalize f 5 = f5
 clear em iC
 have hb5 : Below x4.heap.size x4 v4 := br.drew.trans h4
 have hw5 : Below w'.heap.size w' v4 := HX4.out.1.trans (hb5.mono HX4.out.1.size)
 have hp5 : v4.heap[v2.heap.size]? = some (.cells #[.bool pi,.bool pn1,.string ps1,.bool pn2,.string ps2,.bool pn3,.string ps3,.bool pn4,.string ps4] 29 (0,0)) := (hb5.block _ (Array.getElem?_eq_some_iff.1 HX4.out.2.1).1).trans HX4.out.2.1
 have hq5 : v4.heap[v3.heap.size]? = some (.cells #[.bool false,.bool g00,.string t00,.bool g01,.string t01,.bool g02,.string t02,.bool g03,.string t03] 29 (0,0)) := (hb5.block _ HX4.out.2.2.2).trans HX4.out.2.2.1
 have hg5 := (HV.out.2.2.2 v4 hw5).1
 have HX5 := Lib.hid (And.intro hw5 (And.intro hp5 hq5))
 clear hb5 hw5 hp5 hq5 h4 hg4 hs4 HX4 HIn_ HDi_
 go_wp2_with (first
   | (refine wpList_load_part (by kernel_rfl) 27 _ rfl m4 0 rfl 27 _ #[.bool dn1,.string ds1,.bool dn2,.string ds2,.bool dn3,.string ds3,.bool dn4,.string ds4] (0,0) _ hr5 Tryz.underlying27 rfl (by kernel_rfl) (by kernel_rfl) ?_)
   | (refine wpList_load_part (by kernel_rfl) 29 _ rfl w.heap.size 0 rfl 31 _ #[.bool i0,.bool n00,.string s00,.bool n01,.string s01,.bool n02,.string s02,.bool n03,.string s03] (0,0) _ hg5 Tryz.underlying29 rfl (by kernel_rfl) (by kernel_rfl) ?_)
   | (refine wpList_load_part (by kernel_rfl) 29 _ rfl w.heap.size 9 rfl 31 _ #[.bool i1,.bool n10,.string s10,.bool n11,.string s11,.bool n12,.string s12,.bool n13,.string s13] (0,0) _ hg5 Tryz.underlying29 rfl (by kernel_rfl) (by kernel_rfl) ?_)
   | (refine wpList_load_part (by kernel_rfl) 29 _ rfl w.heap.size 18 rfl 31 _ #[.bool i2,.bool n20,.string s20,.bool n21,.string s21,.bool n22,.string s22,.bool n23,.string s23] (0,0) _ hg5 Tryz.underlying29 rfl (by kernel_rfl) (by kernel_rfl) ?_)
   | (refine wpList_load_part (by kernel_rfl) 29 _ rfl w.heap.size 27 rfl 31 _ #[.bool i3,.bool n30,.string s30,.bool n31,.string s31,.bool n32,.string s32,.bool n33,.string s33] (0,0) _ hg5 Tryz.underlying29 rfl (by kernel_rfl) (by kernel_rfl) ?_)
   | (refine wpList_load_part (by kernel_rfl) 27 _ rfl w.heap.size 36 rfl 31 _ #[.bool g00,.string t00,.bool g01,.string t01,.bool g02,.string t02,.bool g03,.string t03] (0,0) _ hg5 Tryz.underlying27 rfl (by kernel_rfl) (by kernel_rfl) ?_))
 clear hg5 hr5
 refine (HCp_.out _).mono ?_
 rintro e v5 ⟨rfl,hb⟩
 obtain ⟨x6,hx6⟩ : ∃ x,x = v5.alloc (.cells #[.bool pi,.bool pn1,.string ps1,.bool pn2,.string ps2,.bool pn3,.string ps3,.bool pn4,.string ps4] 29) := ⟨_,rfl⟩
 have hr6 : x6.heap[v5.heap.size]? = some (.cells #[.bool pi,.bool pn1,.string ps1,.bool pn2,.string ps2,.bool pn3,.string ps3,.bool pn4,.string ps4] 29 (0,0)) := by rw [hx6]; exact heap_alloc_new v5 _
 have hb6 : Below v4.heap.size v4 x6 := by rw [hx6]; exact alloc_tail hb
 have hp6 : x6.heap[v2.heap.size]? = some (.cells #[.bool pi,.bool pn1,.string ps1,.bool pn2,.string ps2,.bool pn3,.string ps3,.bool pn4,.string ps4] 29 (0,0)) := (hb6.block _ (Array.getElem?_eq_some_iff.1 HX5.out.2.1).1).trans HX5.out.2.1
 have hq6 : x6.heap[v3.heap.size]? = some (.cells #[.bool false,.bool g00,.string t00,.bool g01,.string t01,.bool g02,.string t02,.bool g03,.string t03] 29 (0,0)) := (hb6.block _ (Array.getElem?_eq_some_iff.1 HX5.out.2.2).1).trans HX5.out.2.2
 have hw6 : Below w'.heap.size w' x6 := HX5.out.1.trans (hb6.mono HX5.out.1.size)
 have hg6 := (HV.out.2.2.2 x6 hw6).1
 have HB6 := Lib.hid (HV.out.2.1.trans (hw6.mono HV.out.2.1.size))
 have ne0 := fun w => run_neq_pt w pi pn1 pn2 pn3 pn4 i0 n00 n01 n02 n03 ps1 ps2 ps3 ps4 s00 s01 s02 s03 true (by simpa using hn0)
 have ne1 := fun w => run_neq_pt w pi pn1 pn2 pn3 pn4 i1 n10 n11 n12 n13 ps1 ps2 ps3 ps4 s10 s11 s12 s13 true (by simpa using hn1)
 have ne2 := fun w => run_neq_pt w pi pn1 pn2 pn3 pn4 i2 n20 n21 n22 n23 ps1 ps2 ps3 ps4 s20 s21 s22 s23 true (by simpa using hn2)
 have eq0 := fun w => run_eql_pt w pi pn1 pn2 pn3 pn4 pi pn1 pn2 pn3 pn4 ps1 ps2 ps3 ps4 ps1 ps2 ps3 ps4 true (by simp)
 have eq1 := fun w => run_eql_pt w false g00 g01 g02 g03 false g00 g01 g02 g03 t00 t01 t02 t03 t00 t01 t02 t03 true (by simp)
 rw [hx6] at hr6 hp6 hq6 hg6 HB6
 clear hb hb6 hw6 hx6 HX5 HCp_ hn0 hn1 hn2
 go_wp2_with (first
   | (refine wpList_load_part (by kernel_rfl) 29 _ rfl v3.heap.size 0 rfl 29 _ #[.bool false,.bool g00,.string t00,.bool g01,.string t01,.bool g02,.string t02,.bool g03,.string t03] (0,0) _ hq6 Tryz.underlying29 rfl (by kernel_rfl) (by kernel_rfl) ?_)
   | (refine wpList_load_part (by kernel_rfl) 29 _ rfl v2.heap.size 0 rfl 29 _ #[.bool pi,.bool pn1,.string ps1,.bool pn2,.string ps2,.bool pn3,.string ps3,.bool pn4,.string ps4] (0,0) _ hp6 Tryz.underlying29 rfl (by kernel_rfl) (by kernel_rfl) ?_)
   | (refine wpList_load_part (by kernel_rfl) 29 _ rfl v5.heap.size 0 rfl 29 _ #[.bool pi,.bool pn1,.string ps1,.bool pn2,.string ps2,.bool pn3,.string ps3,.bool pn4,.string ps4] (0,0) _ hr6 Tryz.underlying29 rfl (by kernel_rfl) (by kernel_rfl) ?_)
   | (refine wpList_load_part (by kernel_rfl) 29 _ rfl w.heap.size 0 rfl 31 _ #[.bool i0,.bool n00,.string s00,.bool n01,.string s01,.bool n02,.string s02,.bool n03,.string s03] (0,0) _ hg6 Tryz.underlying29 rfl (by kernel_rfl) (by kernel_rfl) ?_)
   | (refine wpList_load_part (by kernel_rfl) 29 _ rfl w.heap.size 9 rfl 31 _ #[.bool i1,.bool n10,.string s10,.bool n11,.string s11,.bool n12,.string s12,.bool n13,.string s13] (0,0) _ hg6 Tryz.underlying29 rfl (by kernel_rfl) (by kernel_rfl) ?_)
   | (refine wpList_load_part (by kernel_rfl) 29 _ rfl w.heap.size 18 rfl 31 _ #[.bool i2,.bool n20,.string s20,.bool n21,.string s21,.bool n22,.string s22,.bool n23,.string s23] (0,0) _ hg6 Tryz.underlying29 rfl (by kernel_rfl) (by kernel_rfl) ?_)
   | (refine wpList_load_part (by kernel_rfl) 29 _ rfl w.heap.size 27 rfl 31 _ #[.bool i3,.bool n30,.string s30,.bool n31,.string s31,.bool n32,.string s32,.bool n33,.string s33] (0,0) _ hg6 Tryz.underlying29 rfl (by kernel_rfl) (by kernel_rfl) ?_)
   | (refine wpList_load_part (by kernel_rfl) 27 _ rfl w.heap.size 36 rfl 31 _ #[.bool g00,.string t00,.bool g01,.string t01,.bool g02,.string t02,.bool g03,.string t03] (0,0) _ hg6 Tryz.underlying27 rfl (by kernel_rfl) (by kernel_rfl) ?_))
 clear hr6 hp6 hq6 hg6
 refine (Known_any _).mono ?_
 rintro e y ⟨rfl,hb⟩
 have HBy := Lib.hid (HB6.out.trans (hb.mono HB6.out.size))
 clear hb
 go_wp2_with fail
 go_ret
 exact ⟨rfl,HBy.out⟩
end Go.Proofs.YtepefgkihnjjaaaGreat
