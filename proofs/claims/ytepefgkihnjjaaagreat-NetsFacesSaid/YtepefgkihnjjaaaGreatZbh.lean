/- Laws for the walk. -/
import Derived.Test.YtepefgkihnjjaaaGreatZzz
import Derived.Test.YtepefgkihnjjaaaGreatZbg
import Derived.Deep.Cut
set_option linter.unusedVariables false
namespace Go.Proofs.YtepefgkihnjjaaaGreat
open Go.RowKit Tr
set_option maxRecDepth 100000 in
set_option maxHeartbeats 12800000 in
theorem law_bb (i0 i1 i2 i3 n00 n01 n02 n03 n10 n11 n12 n13 n20 n21 n22 n23 n30 n31 n32 n33 g00 g01 g02 g03 g10 g11 g12 g13 g20 g21 g22 g23 : Bool) (s00 s01 s02 s03 s10 s11 s12 s13 s20 s21 s22 s23 s30 s31 s32 s33 t00 t01 t02 t03 t10 t11 t12 t13 t20 t21 t22 t23 : ByteArray) (ke : Int) (hke : ke = 2 ∨ ke = 370 ∨ ke = 4) (HFa : ∀ w,Calls Tryz.prog 8 #[.agg #[.bool i0,.bool n00,.string s00,.bool n01,.string s01,.bool n02,.string s02,.bool n03,.string s03,.bool i1,.bool n10,.string s10,.bool n11,.string s11,.bool n12,.string s12,.bool n13,.string s13,.bool i2,.bool n20,.string s20,.bool n21,.string s21,.bool n22,.string s22,.bool n23,.string s23,.bool i3,.bool n30,.string s30,.bool n31,.string s31,.bool n32,.string s32,.bool n33,.string s33,.bool g00,.string t00,.bool g01,.string t01,.bool g02,.string t02,.bool g03,.string t03,.bool g10,.string t10,.bool g11,.string t11,.bool g12,.string t12,.bool g13,.string t13,.bool g20,.string t20,.bool g21,.string t21,.bool g22,.string t22,.bool g23,.string t23]] w fun e w' => e = .returned (.tuple #[.agg #[.bool false,.bool false,.string ⟨#[]⟩,.bool false,.string ⟨#[]⟩,.bool false,.string ⟨#[]⟩,.bool false,.string ⟨#[]⟩,.bool false,.bool false,.string ⟨#[]⟩,.bool false,.string ⟨#[]⟩,.bool false,.string ⟨#[]⟩,.bool false,.string ⟨#[]⟩,.bool false,.bool false,.string ⟨#[]⟩,.bool false,.string ⟨#[]⟩,.bool false,.string ⟨#[]⟩,.bool false,.string ⟨#[]⟩],.int .i64 ke]) ∧ Below w.heap.size w w') (kf : Int) (hkf : kf = 2 ∨ kf = 370 ∨ kf = 4) (HCo : ∀ w,Calls Tryz.prog 10 #[.agg #[.bool i0,.bool n00,.string s00,.bool n01,.string s01,.bool n02,.string s02,.bool n03,.string s03],.agg #[.bool i1,.bool n10,.string s10,.bool n11,.string s11,.bool n12,.string s12,.bool n13,.string s13],.agg #[.bool i2,.bool n20,.string s20,.bool n21,.string s21,.bool n22,.string s22,.bool n23,.string s23],.agg #[.bool g00,.string t00,.bool g01,.string t01,.bool g02,.string t02,.bool g03,.string t03]] w fun e w' => e = .returned (.tuple #[.agg #[.bool false,.bool false,.string ⟨#[]⟩,.bool false,.string ⟨#[]⟩,.bool false,.string ⟨#[]⟩,.bool false,.string ⟨#[]⟩],.int .i64 kf]) ∧ Below w.heap.size w w') (w : World) :
  Calls Tryz.prog 4 #[.agg #[.bool i0,.bool n00,.string s00,.bool n01,.string s01,.bool n02,.string s02,.bool n03,.string s03,.bool i1,.bool n10,.string s10,.bool n11,.string s11,.bool n12,.string s12,.bool n13,.string s13,.bool i2,.bool n20,.string s20,.bool n21,.string s21,.bool n22,.string s22,.bool n23,.string s23,.bool i3,.bool n30,.string s30,.bool n31,.string s31,.bool n32,.string s32,.bool n33,.string s33,.bool g00,.string t00,.bool g01,.string t01,.bool g02,.string t02,.bool g03,.string t03,.bool g10,.string t10,.bool g11,.string t11,.bool g12,.string t12,.bool g13,.string t13,.bool g20,.string t20,.bool g21,.string t21,.bool g22,.string t22,.bool g23,.string t23]] w fun e w' => e = .returned (.bool true) ∧ Below w.heap.size w w' := by
 have HFa_ := Lib.hid HFa
 have HCo_ := Lib.hid HCo
 clear HFa HCo
 obtain ⟨W,HV⟩ := lwbox w (.bool i0) (.bool n00) (.string s00) (.bool n01) (.string s01) (.bool n02) (.string s02) (.bool n03) (.string s03) (.bool i1) (.bool n10) (.string s10) (.bool n11) (.string s11) (.bool n12) (.string s12) (.bool n13) (.string s13) (.bool i2) (.bool n20) (.string s20) (.bool n21) (.string s21) (.bool n22) (.string s22) (.bool n23) (.string s23) (.bool i3) (.bool n30) (.string s30) (.bool n31) (.string s31) (.bool n32) (.string s32) (.bool n33) (.string s33) (.bool g00) (.string t00) (.bool g01) (.string t01) (.bool g02) (.string t02) (.bool g03) (.string t03) (.bool g10) (.string t10) (.bool g11) (.string t11) (.bool g12) (.string t12) (.bool g13) (.string t13) (.bool g20) (.string t20) (.bool g21) (.string t21) (.bool g22) (.string t22) (.bool g23) (.string t23) (.bool n00) (.string s00) (.bool n01) (.string s01) (.bool n02) (.string s02) (.bool n03) (.string s03) (.bool n10) (.string s10) (.bool n11) (.string s11) (.bool n12) (.string s12) (.bool n13) (.string s13) (.bool n20) (.string s20) (.bool n21) (.string s21) (.bool n22) (.string s22) (.bool n23) (.string s23) (.bool n30) (.string s30) (.bool n31) (.string s31) (.bool n32) (.string s32) (.bool n33) (.string s33) (.bool g00) (.string t00) (.bool g01) (.string t01) (.bool g02) (.string t02) (.bool g03) (.string t03) (.bool g10) (.string t10) (.bool g11) (.string t11) (.bool g12) (.string t12) (.bool g13) (.string t13) (.bool g20) (.string t20) (.bool g21) (.string t21) (.bool g22) (.string t22) (.bool g23) (.string t23)
 have hgc : (w.alloc (.cells #[.bool i0,.bool n00,.string s00,.bool n01,.string s01,.bool n02,.string s02,.bool n03,.string s03,.bool i1,.bool n10,.string s10,.bool n11,.string s11,.bool n12,.string s12,.bool n13,.string s13,.bool i2,.bool n20,.string s20,.bool n21,.string s21,.bool n22,.string s22,.bool n23,.string s23,.bool i3,.bool n30,.string s30,.bool n31,.string s31,.bool n32,.string s32,.bool n33,.string s33,.bool g00,.string t00,.bool g01,.string t01,.bool g02,.string t02,.bool g03,.string t03,.bool g10,.string t10,.bool g11,.string t11,.bool g12,.string t12,.bool g13,.string t13,.bool g20,.string t20,.bool g21,.string t21,.bool g22,.string t22,.bool g23,.string t23] 31)).heap[w.heap.size]? = some (.cells #[.bool i0,.bool n00,.string s00,.bool n01,.string s01,.bool n02,.string s02,.bool n03,.string s03,.bool i1,.bool n10,.string s10,.bool n11,.string s11,.bool n12,.string s12,.bool n13,.string s13,.bool i2,.bool n20,.string s20,.bool n21,.string s21,.bool n22,.string s22,.bool n23,.string s23,.bool i3,.bool n30,.string s30,.bool n31,.string s31,.bool n32,.string s32,.bool n33,.string s33,.bool g00,.string t00,.bool g01,.string t01,.bool g02,.string t02,.bool g03,.string t03,.bool g10,.string t10,.bool g11,.string t11,.bool g12,.string t12,.bool g13,.string t13,.bool g20,.string t20,.bool g21,.string t21,.bool g22,.string t22,.bool g23,.string t23] 31 (0,0)) := heap_alloc_new w _
 go_enter Tryz.func4,Tryz.ntmps4
 go_wp2_with (first
   | (refine Go.Great.wpList_boxTo rfl 31 _ rfl (some 1) rfl w.heap.size rfl _ rfl ?_)
   | (refine wpList_load_part (by kernel_rfl) 27 _ rfl w.heap.size 1 rfl 31 _ #[.bool n00,.string s00,.bool n01,.string s01,.bool n02,.string s02,.bool n03,.string s03] (0,0) _ hgc Tryz.underlying27 rfl (by kernel_rfl) (by kernel_rfl) ?_)
   | (refine wpList_load_part (by kernel_rfl) 27 _ rfl w.heap.size 10 rfl 31 _ #[.bool n10,.string s10,.bool n11,.string s11,.bool n12,.string s12,.bool n13,.string s13] (0,0) _ hgc Tryz.underlying27 rfl (by kernel_rfl) (by kernel_rfl) ?_)
   | (refine wpList_load_part (by kernel_rfl) 27 _ rfl w.heap.size 19 rfl 31 _ #[.bool n20,.string s20,.bool n21,.string s21,.bool n22,.string s22,.bool n23,.string s23] (0,0) _ hgc Tryz.underlying27 rfl (by kernel_rfl) (by kernel_rfl) ?_)
   | (refine wpList_load_part (by kernel_rfl) 27 _ rfl w.heap.size 28 rfl 31 _ #[.bool n30,.string s30,.bool n31,.string s31,.bool n32,.string s32,.bool n33,.string s33] (0,0) _ hgc Tryz.underlying27 rfl (by kernel_rfl) (by kernel_rfl) ?_)
   | (refine wpList_load_part (by kernel_rfl) 27 _ rfl w.heap.size 36 rfl 31 _ #[.bool g00,.string t00,.bool g01,.string t01,.bool g02,.string t02,.bool g03,.string t03] (0,0) _ hgc Tryz.underlying27 rfl (by kernel_rfl) (by kernel_rfl) ?_)
   | (refine wpList_load_part (by kernel_rfl) 27 _ rfl w.heap.size 44 rfl 31 _ #[.bool g10,.string t10,.bool g11,.string t11,.bool g12,.string t12,.bool g13,.string t13] (0,0) _ hgc Tryz.underlying27 rfl (by kernel_rfl) (by kernel_rfl) ?_)
   | (refine wpList_load_part (by kernel_rfl) 27 _ rfl w.heap.size 52 rfl 31 _ #[.bool g20,.string t20,.bool g21,.string t21,.bool g22,.string t22,.bool g23,.string t23] (0,0) _ hgc Tryz.underlying27 rfl (by kernel_rfl) (by kernel_rfl) ?_))
 try simp only [Nat.add_assoc,Nat.reduceAdd]
 rw [← HV.out.1]
 clear hgc
 refine (wide_any n00 n01 n02 n03 n10 n11 n12 n13 n20 n21 n22 n23 n30 n31 n32 n33 g00 g01 g02 g03 g10 g11 g12 g13 g20 g21 g22 g23 s00 s01 s02 s03 s10 s11 s12 s13 s20 s21 s22 s23 s30 s31 s32 s33 t00 t01 t02 t03 t10 t11 t12 t13 t20 t21 t22 t23 (w.heap.size + 1) W (HV.out.2.2.2 W br).2).mono ?_
 rintro e w' ⟨r,rfl,rfl,hr⟩
 generalize Value.agg #[.bool i0,.bool n00,.string s00,.bool n01,.string s01,.bool n02,.string s02,.bool n03,.string s03,.bool i1,.bool n10,.string s10,.bool n11,.string s11,.bool n12,.string s12,.bool n13,.string s13,.bool i2,.bool n20,.string s20,.bool n21,.string s21,.bool n22,.string s22,.bool n23,.string s23,.bool i3,.bool n30,.string s30,.bool n31,.string s31,.bool n32,.string s32,.bool n33,.string s33,.bool g00,.string t00,.bool g01,.string t01,.bool g02,.string t02,.bool g03,.string t03,.bool g10,.string t10,.bool g11,.string t11,.bool g12,.string t12,.bool g13,.string t13,.bool g20,.string t20,.bool g21,.string t21,.bool g22,.string t22,.bool g23,.string t23] = big0
 cases r
 case true =>
  go_wp2_with fail
  refine (Known_any _).mono ?_
  rintro e y ⟨rfl,hb⟩
  have HBy := Lib.hid (HV.out.2.1.trans (hb.mono HV.out.2.1.size))
  clear hb
  go_wp2_with fail
  go_ret
  exact ⟨rfl,HBy.out⟩
 clear hr
 have hg0 := (HV.out.2.2.2 w' br).1
 go_wp2_with (refine wpList_load_row rfl 31 _ rfl (w.heap.size) rfl 31 _ (0,0) _ hg0 Tryz.underlying31 rfl (by kernel_rfl) ?_)
 clear hg0
 refine (HFa_.out _).mono ?_
 rintro e v1 ⟨rfl,hb⟩
 generalize Value.agg #[.bool i0,.bool n00,.string s00,.bool n01,.string s01,.bool n02,.string s02,.bool n03,.string s03,.bool i1,.bool n10,.string s10,.bool n11,.string s11,.bool n12,.string s12,.bool n13,.string s13,.bool i2,.bool n20,.string s20,.bool n21,.string s21,.bool n22,.string s22,.bool n23,.string s23,.bool i3,.bool n30,.string s30,.bool n31,.string s31,.bool n32,.string s32,.bool n33,.string s33,.bool g00,.string t00,.bool g01,.string t01,.bool g02,.string t02,.bool g03,.string t03,.bool g10,.string t10,.bool g11,.string t11,.bool g12,.string t12,.bool g13,.string t13,.bool g20,.string t20,.bool g21,.string t21,.bool g22,.string t22,.bool g23,.string t23] = big1
 obtain ⟨x1,hx1⟩ : ∃ x,x = v1.alloc (.cells #[.bool false,.bool false,.string ⟨#[]⟩,.bool false,.string ⟨#[]⟩,.bool false,.string ⟨#[]⟩,.bool false,.string ⟨#[]⟩,.bool false,.bool false,.string ⟨#[]⟩,.bool false,.string ⟨#[]⟩,.bool false,.string ⟨#[]⟩,.bool false,.string ⟨#[]⟩,.bool false,.bool false,.string ⟨#[]⟩,.bool false,.string ⟨#[]⟩,.bool false,.string ⟨#[]⟩,.bool false,.string ⟨#[]⟩] 37) := ⟨_,rfl⟩
 have hb1 : Below w'.heap.size w' x1 := by rw [hx1]; exact alloc_tail hb
 have hr1 : x1.heap[v1.heap.size]? = some (.cells #[.bool false,.bool false,.string ⟨#[]⟩,.bool false,.string ⟨#[]⟩,.bool false,.string ⟨#[]⟩,.bool false,.string ⟨#[]⟩,.bool false,.bool false,.string ⟨#[]⟩,.bool false,.string ⟨#[]⟩,.bool false,.string ⟨#[]⟩,.bool false,.string ⟨#[]⟩,.bool false,.bool false,.string ⟨#[]⟩,.bool false,.string ⟨#[]⟩,.bool false,.string ⟨#[]⟩,.bool false,.string ⟨#[]⟩] 37 (0,0)) := by rw [hx1]; exact heap_alloc_new v1 _
 have hb2 : Below w'.heap.size w' (x1.setRow v1.heap.size #[.bool false,.bool false,.string ⟨#[]⟩,.bool false,.string ⟨#[]⟩,.bool false,.string ⟨#[]⟩,.bool false,.string ⟨#[]⟩,.bool false,.bool false,.string ⟨#[]⟩,.bool false,.string ⟨#[]⟩,.bool false,.string ⟨#[]⟩,.bool false,.string ⟨#[]⟩,.bool false,.bool false,.string ⟨#[]⟩,.bool false,.string ⟨#[]⟩,.bool false,.string ⟨#[]⟩,.bool false,.string ⟨#[]⟩]) := below_setRow hb1 hb.size _
 have hr2 : (x1.setRow v1.heap.size #[.bool false,.bool false,.string ⟨#[]⟩,.bool false,.string ⟨#[]⟩,.bool false,.string ⟨#[]⟩,.bool false,.string ⟨#[]⟩,.bool false,.bool false,.string ⟨#[]⟩,.bool false,.string ⟨#[]⟩,.bool false,.string ⟨#[]⟩,.bool false,.string ⟨#[]⟩,.bool false,.bool false,.string ⟨#[]⟩,.bool false,.string ⟨#[]⟩,.bool false,.string ⟨#[]⟩,.bool false,.string ⟨#[]⟩]).heap[v1.heap.size]? = some (.cells #[.bool false,.bool false,.string ⟨#[]⟩,.bool false,.string ⟨#[]⟩,.bool false,.string ⟨#[]⟩,.bool false,.string ⟨#[]⟩,.bool false,.bool false,.string ⟨#[]⟩,.bool false,.string ⟨#[]⟩,.bool false,.string ⟨#[]⟩,.bool false,.string ⟨#[]⟩,.bool false,.bool false,.string ⟨#[]⟩,.bool false,.string ⟨#[]⟩,.bool false,.string ⟨#[]⟩,.bool false,.string ⟨#[]⟩] 37 (0,0)) := setRow_heap x1 v1.heap.size _ #[.bool false,.bool false,.string ⟨#[]⟩,.bool false,.string ⟨#[]⟩,.bool false,.string ⟨#[]⟩,.bool false,.string ⟨#[]⟩,.bool false,.bool false,.string ⟨#[]⟩,.bool false,.string ⟨#[]⟩,.bool false,.string ⟨#[]⟩,.bool false,.string ⟨#[]⟩,.bool false,.bool false,.string ⟨#[]⟩,.bool false,.string ⟨#[]⟩,.bool false,.string ⟨#[]⟩,.bool false,.string ⟨#[]⟩] _ _ hr1
 obtain ⟨x2,hx2⟩ : ∃ x,x = x1.setRow v1.heap.size #[.bool false,.bool false,.string ⟨#[]⟩,.bool false,.string ⟨#[]⟩,.bool false,.string ⟨#[]⟩,.bool false,.string ⟨#[]⟩,.bool false,.bool false,.string ⟨#[]⟩,.bool false,.string ⟨#[]⟩,.bool false,.string ⟨#[]⟩,.bool false,.string ⟨#[]⟩,.bool false,.bool false,.string ⟨#[]⟩,.bool false,.string ⟨#[]⟩,.bool false,.string ⟨#[]⟩,.bool false,.string ⟨#[]⟩] := ⟨_,rfl⟩
 rw [← hx2] at hb2 hr2
 have hg2 := (HV.out.2.2.2 x2 hb2).1
 have HX := Lib.hid (And.intro hx2 hx1)
 have HB2 := Lib.hid hb2
 rw [hx1] at hx2
 rw [hx1] at hr1
 rw [hx2] at hr2 hg2
 clear hx1 hb1 hb2 hb HFa_
 have hne : (ke == 0) = false := by simp; omega
 go_upto_region 4 with (refine wpList_store_row rfl 37 _ _ rfl v1.heap.size #[.bool false,.bool false,.string ⟨#[]⟩,.bool false,.string ⟨#[]⟩,.bool false,.string ⟨#[]⟩,.bool false,.string ⟨#[]⟩,.bool false,.bool false,.string ⟨#[]⟩,.bool false,.string ⟨#[]⟩,.bool false,.string ⟨#[]⟩,.bool false,.string ⟨#[]⟩,.bool false,.bool false,.string ⟨#[]⟩,.bool false,.string ⟨#[]⟩,.bool false,.string ⟨#[]⟩,.bool false,.string ⟨#[]⟩] rfl rfl 37 _ hr1 (by kernel_rfl) (by kernel_rfl) (by kernel_rfl) ?_)
 refine wp_region_lit ?_
 iterate 9 go_step
 go_skip
 iterate 4 go_step
 go_wp2_with (first
   | (refine wpList_load_part (by kernel_rfl) 29 _ rfl w.heap.size 0 rfl 31 _ #[.bool i0,.bool n00,.string s00,.bool n01,.string s01,.bool n02,.string s02,.bool n03,.string s03] (0,0) _ hg2 Tryz.underlying29 rfl (by kernel_rfl) (by kernel_rfl) ?_)
   | (refine wpList_load_part (by kernel_rfl) 29 _ rfl w.heap.size 9 rfl 31 _ #[.bool i1,.bool n10,.string s10,.bool n11,.string s11,.bool n12,.string s12,.bool n13,.string s13] (0,0) _ hg2 Tryz.underlying29 rfl (by kernel_rfl) (by kernel_rfl) ?_)
   | (refine wpList_load_part (by kernel_rfl) 29 _ rfl w.heap.size 18 rfl 31 _ #[.bool i2,.bool n20,.string s20,.bool n21,.string s21,.bool n22,.string s22,.bool n23,.string s23] (0,0) _ hg2 Tryz.underlying29 rfl (by kernel_rfl) (by kernel_rfl) ?_)
   | (refine wpList_load_part (by kernel_rfl) 29 _ rfl w.heap.size 27 rfl 31 _ #[.bool i3,.bool n30,.string s30,.bool n31,.string s31,.bool n32,.string s32,.bool n33,.string s33] (0,0) _ hg2 Tryz.underlying29 rfl (by kernel_rfl) (by kernel_rfl) ?_)
   | (refine wpList_load_part (by kernel_rfl) 27 _ rfl w.heap.size 36 rfl 31 _ #[.bool g00,.string t00,.bool g01,.string t01,.bool g02,.string t02,.bool g03,.string t03] (0,0) _ hg2 Tryz.underlying27 rfl (by kernel_rfl) (by kernel_rfl) ?_))
 rw [← hx2]
 clear hr1 hr2 hg2 hx2
 refine (HCo_.out _).mono ?_
 rintro e v2 ⟨rfl,hb⟩
 have hb3 := HB2.out.trans (hb.mono HB2.out.size)
 have hb3w := alloc_tail (o := .cells #[.bool false,.bool false,.string ⟨#[]⟩,.bool false,.string ⟨#[]⟩,.bool false,.string ⟨#[]⟩,.bool false,.string ⟨#[]⟩] 29) hb3
 have HB3 := Lib.hid (HV.out.2.1.trans (hb3w.mono HV.out.2.1.size))
 clear hb hb3 hb3w HB2 HX HCo_
 rcases hkf with rfl | rfl | rfl
 all_goals (
  go_wp2_with fail
  refine (Known_any _).mono ?_
  rintro e y ⟨rfl,hb⟩
  have HBy := Lib.hid (HB3.out.trans (hb.mono HB3.out.size))
  clear hb
  go_wp2_with fail
  go_ret
  exact ⟨rfl,HBy.out⟩)
end Go.Proofs.YtepefgkihnjjaaaGreat
