/- Laws for the walk. -/
import Derived.Test.YtepefgkihnjjaaaGreatZzz
import Derived.Test.YtepefgkihnjjaaaGreatZbg
import Derived.Deep.Cut
set_option linter.unusedVariables false
namespace Go.Proofs.YtepefgkihnjjaaaGreat
open Go.RowKit Tr
set_option maxRecDepth 100000 in
set_option maxHeartbeats 12800000 in
theorem law_bo (i0 i1 i2 i3 n00 n01 n02 n03 n10 n11 n12 n13 n20 n21 n22 n23 n30 n31 n32 n33 g00 g01 g02 g03 g10 g11 g12 g13 g20 g21 g22 g23 : Bool) (s00 s01 s02 s03 s10 s11 s12 s13 s20 s21 s22 s23 s30 s31 s32 s33 t00 t01 t02 t03 t10 t11 t12 t13 t20 t21 t22 t23 : ByteArray) (pi pn1 pn2 pn3 pn4 : Bool) (ps1 ps2 ps3 ps4 : ByteArray) (dn1 dn2 dn3 dn4 : Bool) (ds1 ds2 ds3 ds4 : ByteArray) (un1 un2 un3 un4 : Bool) (us1 us2 us3 us4 : ByteArray) (ke : Int) (hke : ke = 2 ∨ ke = 370 ∨ ke = 4) (HFa : ∀ w,Calls Tryz.prog 8 #[.agg #[.bool i0,.bool n00,.string s00,.bool n01,.string s01,.bool n02,.string s02,.bool n03,.string s03,.bool i1,.bool n10,.string s10,.bool n11,.string s11,.bool n12,.string s12,.bool n13,.string s13,.bool i2,.bool n20,.string s20,.bool n21,.string s21,.bool n22,.string s22,.bool n23,.string s23,.bool i3,.bool n30,.string s30,.bool n31,.string s31,.bool n32,.string s32,.bool n33,.string s33,.bool g00,.string t00,.bool g01,.string t01,.bool g02,.string t02,.bool g03,.string t03,.bool g10,.string t10,.bool g11,.string t11,.bool g12,.string t12,.bool g13,.string t13,.bool g20,.string t20,.bool g21,.string t21,.bool g22,.string t22,.bool g23,.string t23]] w fun e w' => e = .returned (.tuple #[.agg #[.bool false,.bool false,.string ⟨#[]⟩,.bool false,.string ⟨#[]⟩,.bool false,.string ⟨#[]⟩,.bool false,.string ⟨#[]⟩,.bool false,.bool false,.string ⟨#[]⟩,.bool false,.string ⟨#[]⟩,.bool false,.string ⟨#[]⟩,.bool false,.string ⟨#[]⟩,.bool false,.bool false,.string ⟨#[]⟩,.bool false,.string ⟨#[]⟩,.bool false,.string ⟨#[]⟩,.bool false,.string ⟨#[]⟩],.int .i64 ke]) ∧ Below w.heap.size w w') (HCo : ∀ w,Calls Tryz.prog 10 #[.agg #[.bool i0,.bool n00,.string s00,.bool n01,.string s01,.bool n02,.string s02,.bool n03,.string s03],.agg #[.bool i1,.bool n10,.string s10,.bool n11,.string s11,.bool n12,.string s12,.bool n13,.string s13],.agg #[.bool i2,.bool n20,.string s20,.bool n21,.string s21,.bool n22,.string s22,.bool n23,.string s23],.agg #[.bool g00,.string t00,.bool g01,.string t01,.bool g02,.string t02,.bool g03,.string t03]] w fun e w' => e = .returned (.tuple #[.agg #[.bool pi,.bool pn1,.string ps1,.bool pn2,.string ps2,.bool pn3,.string ps3,.bool pn4,.string ps4],.int .i64 0]) ∧ Below w.heap.size w w') (HRa : ∀ w,Calls Tryz.prog 12 #[.agg #[.bool i0,.bool n00,.string s00,.bool n01,.string s01,.bool n02,.string s02,.bool n03,.string s03],.agg #[.bool i1,.bool n10,.string s10,.bool n11,.string s11,.bool n12,.string s12,.bool n13,.string s13],.agg #[.bool pi,.bool pn1,.string ps1,.bool pn2,.string ps2,.bool pn3,.string ps3,.bool pn4,.string ps4],.agg #[.bool i2,.bool n20,.string s20,.bool n21,.string s21,.bool n22,.string s22,.bool n23,.string s23]] w fun e w' => e = .returned (.tuple #[.agg #[.bool false,.bool g00,.string t00,.bool g01,.string t01,.bool g02,.string t02,.bool g03,.string t03],.int .i64 0]) ∧ Below w.heap.size w w') (HIn : ∀ w,Calls Tryz.prog 14 #[.int .i64 1,.int .i64 0] w fun e w' => e = .returned (.agg #[.bool un1,.string us1,.bool un2,.string us2,.bool un3,.string us3,.bool un4,.string us4]) ∧ Below w.heap.size w w') (HDi : ∀ w,Calls Tryz.prog 13 #[.agg #[.bool un1,.string us1,.bool un2,.string us2,.bool un3,.string us3,.bool un4,.string us4],.agg #[.bool g00,.string t00,.bool g01,.string t01,.bool g02,.string t02,.bool g03,.string t03]] w fun e w' => e = .returned (.tuple #[.agg #[.bool dn1,.string ds1,.bool dn2,.string ds2,.bool dn3,.string ds3,.bool dn4,.string ds4],.int .i64 0]) ∧ Below w.heap.size w w') (HCp : ∀ w,Calls Tryz.prog 10 #[.agg #[.bool i0,.bool n00,.string s00,.bool n01,.string s01,.bool n02,.string s02,.bool n03,.string s03],.agg #[.bool i2,.bool n20,.string s20,.bool n21,.string s21,.bool n22,.string s22,.bool n23,.string s23],.agg #[.bool i1,.bool n10,.string s10,.bool n11,.string s11,.bool n12,.string s12,.bool n13,.string s13],.agg #[.bool dn1,.string ds1,.bool dn2,.string ds2,.bool dn3,.string ds3,.bool dn4,.string ds4]] w fun e w' => e = .returned (.tuple #[.agg #[.bool pi,.bool pn1,.string ps1,.bool pn2,.string ps2,.bool pn3,.string ps3,.bool pn4,.string ps4],.int .i64 0]) ∧ Below w.heap.size w w') (hn0 : Value.agg #[.bool pi,.bool pn1,.string ps1,.bool pn2,.string ps2,.bool pn3,.string ps3,.bool pn4,.string ps4] ≠ .agg #[.bool i0,.bool n00,.string s00,.bool n01,.string s01,.bool n02,.string s02,.bool n03,.string s03]) (hn1 : Value.agg #[.bool pi,.bool pn1,.string ps1,.bool pn2,.string ps2,.bool pn3,.string ps3,.bool pn4,.string ps4] ≠ .agg #[.bool i1,.bool n10,.string s10,.bool n11,.string s11,.bool n12,.string s12,.bool n13,.string s13]) (hn2 : Value.agg #[.bool pi,.bool pn1,.string ps1,.bool pn2,.string ps2,.bool pn3,.string ps3,.bool pn4,.string ps4] ≠ .agg #[.bool i2,.bool n20,.string s20,.bool n21,.string s21,.bool n22,.string s22,.bool n23,.string s23]) (w : World) :
  Calls Tryz.prog 4 #[.agg #[.bool i0,.bool n00,.string s00,.bool n01,.string s01,.bool n02,.string s02,.bool n03,.string s03,.bool i1,.bool n10,.string s10,.bool n11,.string s11,.bool n12,.string s12,.bool n13,.string s13,.bool i2,.bool n20,.string s20,.bool n21,.string s21,.bool n22,.string s22,.bool n23,.string s23,.bool i3,.bool n30,.string s30,.bool n31,.string s31,.bool n32,.string s32,.bool n33,.string s33,.bool g00,.string t00,.bool g01,.string t01,.bool g02,.string t02,.bool g03,.string t03,.bool g10,.string t10,.bool g11,.string t11,.bool g12,.string t12,.bool g13,.string t13,.bool g20,.string t20,.bool g21,.string t21,.bool g22,.string t22,.bool g23,.string t23]] w fun e w' => e = .returned (.bool true) ∧ Below w.heap.size w w' := by
 have HFa_ := Lib.hid HFa
 have HCo_ := Lib.hid HCo
 have HRa_ := Lib.hid HRa
 have HIn_ := Lib.hid HIn
 have HDi_ := Lib.hid HDi
 have HCp_ := Lib.hid HCp
 clear HFa HCo HRa HIn HDi HCp
 obtain ⟨W,HV⟩ := lwbox w (.bool i0) (.bool n00) (.string s00) (.bool n01) (.string s01) (.bool n02) (.string s02) (.bool n03) (.string s03) (.bool i1) (.bool n10) (.string s10) (.bool n11) (.string s11) (.bool n12) (.string s12) (.bool n13) (.string s13) (.bool i2) (.bool n20) (.string s20) (.bool n21) (.string s21) (.bool n22) (.string s22) (.bool n23) (.string s23) (.bool i3) (.bool n30) (.string s30) (.bool n31) (.string s31) (.bool n32) (.string s32) (.bool n33) (.string s33) (.bool g00) (.string t00) (.bool g01) (.string t01) (.bool g02) (.string t02) (.bool g03) (.string t03) (.bool g10) (.string t10) (.bool g11) (.string t11) (.bool g12) (.string t12) (.bool g13) (.string t13) (.bool g20) (.string t20) (.bool g21) (.string t21) (.bool g22) (.string t22) (.bool g23) (.string t23) (.bool n00) (.string s00) (.bool n01) (.string s01) (.bool n02) (.string s02) (.bool n03) (.string s03) (.bool n10) (.string s10) (.bool n11) (.string s11) (.bool n12) (.string s12) (.bool n13) (.string s13) (.bool n20) (.string s20) (.bool n21) (.string s21) (.bool n22) (.string s22) (.bool n23) (.string s23) (.bool n30) (.string s30) (.bool n31) (.string s31) (.bool n32) (.string s32) (.bool n33) (.string s33) (.bool g00) (.string t00) (.bool g01) (.string t01) (.bool g02) (.string t02) (.bool g03) (.string t03) (.bool g10) (.string t10) (.bool g11) (.string t11) (.bool g12) (.string t12) (.bool g13) (.string t13) (.bool g20) (.string t20) (.bool g21) (.string t21) (.bool g22) (.string t22) (.bool g23) (.string t23)
 have hgc : (w.alloc (.cells #[.bool i0,.bool n00,.string s00,.bool n01,.string s01,.bool n02,.string s02,.bool n03,.string s03,.bool i1,.bool n10,.string s10,.bool n11,.string s11,.bool n12,.string s12,.bool n13,.string s13,.bool i2,.bool n20,.string s20,.bool n21,.string s21,.bool n22,.string s22,.bool n23,.string s23,.bool i3,.bool n30,.string s30,.bool n31,.string s31,.bool n32,.string s32,.bool n33,.string s33,.bool g00,.string t00,.bool g01,.string t01,.bool g02,.string t02,.bool g03,.string t03,.bool g10,.string t10,.bool g11,.string t11,.bool g12,.string t12,.bool g13,.string t13,.bool g20,.string t20,.bool g21,.string t21,.bool g22,.string t22,.bool g23,.string t23] 31)).heap[w.heap.size]? = some (.cells #[.bool i0,.bool n00,.string s00,.bool n01,.string s01,.bool n02,.string s02,.bool n03,.string s03,.bool i1,.bool n10,.string s10,.bool n11,.string s11,.bool n12,.string s12,.bool n13,.string s13,.bool i2,.bool n20,.string s20,.bool n21,.string s21,.bool n22,.string s22,.bool n23,.string s23,.bool i3,.bool n30,.string s30,.bool n31,.string s31,.bool n32,.string s32,.bool n33,.string s33,.bool g00,.string t00,.bool g01,.string t01,.bool g02,.string t02,.bool g03,.string t03,.bool g10,.string t10,.bool g11,.string t11,.bool g12,.string t12,.bool g13,.string t13,.bool g20,.string t20,.bool g21,.string t21,.bool g22,.string t22,.bool g23,.string t23] 31 (0,0)) := heap_alloc_new w _
 go_enter Tryz.func4,Tryz.ntmps4
 go_wp2_with (first
   | (refine Go.Great.wpList_boxTo rfl 31 _ rfl (some 1) rfl w.heap.size rfl _ rfl ?_)
   | (refine wpList_load_part (by kernel_rfl) 27 _ rfl w.heap.size 1 rfl 31 _ #[.bool n00,.string s00,.bool n01,.string s01,.bool n02,.string s02,.bool n03,.string s03] (0,0) _ hgc Tryz.underlying27 rfl (by kernel_rfl) (by kernel_rfl) ?_)
   | (refine wpList_load_part (by kernel_rfl) 27 _ rfl w.heap.size 10 rfl 31 _ #[.bool n10,.string s10,.bool n11,.string s11,.bool n12,.string s12,.bool n13,.string s13] (0,0) _ hgc Tryz.underlying27 rfl (by kernel_rfl) (by kernel_rfl) ?_)
   | (refine wpList_load_part (by kernel_rfl) 27 _ rfl w.heap.size 19 rfl 31 _ #[.bool n20,.string s20,.bool n21,.string s21,.bool n22,.string s22,.bool n23,.string s23] (0,0) _ hgc Tryz.underlying27 rfl (by kernel_rfl) (by kernel_rfl) ?_)
   | (refine wpList_load_part (by kernel_rfl) 27 _ rfl w.heap.size 28 rfl 31 _ #[.bool n30,.string s30,.bool n31,.string s31,.bool n32,.string s32,.bool n33,.string s33] (0,0) _ hgc Tryz.underlying27 rfl (by kernel_rfl) (by kernel_rfl) ?_)
   | (refine wpList_load_part (by kernel_rfl) 27 _ rfl w.heap.size 36 rfl 31 _ #[.bool g00,.string t00,.bool g01,.string t01,.bool g02,.string t02,.bool g03,.string t03] (0,0) _ hgc Tryz.underlying27 rfl (by kernel_rfl) (by kernel_rfl) ?_)
   | (refine wpList_load_part (by kernel_rfl) 27 _ rfl w.heap.size 44 rfl 31 _ #[.bool g10,.string t10,.bool g11,.string t11,.bool g12,.string t12,.bool g13,.string t13] (0,0) _ hgc Tryz.underlying27 rfl (by kernel_rfl) (by kernel_rfl) ?_)
   | (refine wpList_load_part (by kernel_rfl) 27 _ rfl w.heap.size 52 rfl 31 _ #[.bool g20,.string t20,.bool g21,.string t21,.bool g22,.string t22,.bool g23,.string t23] (0,0) _ hgc Tryz.underlying27 rfl (by kernel_rfl) (by kernel_rfl) ?_))
 try simp only [Nat.add_assoc,Nat.reduceAdd]
 rw [← HV.out.1]
 clear hgc
 refine (wide_any n00 n01 n02 n03 n10 n11 n12 n13 n20 n21 n22 n23 n30 n31 n32 n33 g00 g01 g02 g03 g10 g11 g12 g13 g20 g21 g22 g23 s00 s01 s02 s03 s10 s11 s12 s13 s20 s21 s22 s23 s30 s31 s32 s33 t00 t01 t02 t03 t10 t11 t12 t13 t20 t21 t22 t23 (w.heap.size + 1) W (HV.out.2.2.2 W br).2).mono ?_
 rintro e w' ⟨r,rfl,rfl,hr⟩
 generalize Value.agg #[.bool i0,.bool n00,.string s00,.bool n01,.string s01,.bool n02,.string s02,.bool n03,.string s03,.bool i1,.bool n10,.string s10,.bool n11,.string s11,.bool n12,.string s12,.bool n13,.string s13,.bool i2,.bool n20,.string s20,.bool n21,.string s21,.bool n22,.string s22,.bool n23,.string s23,.bool i3,.bool n30,.string s30,.bool n31,.string s31,.bool n32,.string s32,.bool n33,.string s33,.bool g00,.string t00,.bool g01,.string t01,.bool g02,.string t02,.bool g03,.string t03,.bool g10,.string t10,.bool g11,.string t11,.bool g12,.string t12,.bool g13,.string t13,.bool g20,.string t20,.bool g21,.string t21,.bool g22,.string t22,.bool g23,.string t23] = big0
 cases r
 case true =>
  go_wp2_with fail
  refine (Known_any _).mono ?_
  rintro e y ⟨rfl,hb⟩
  have HBy := Lib.hid (HV.out.2.1.trans (hb.mono HV.out.2.1.size))
  clear hb
  go_wp2_with fail
  go_ret
  exact ⟨rfl,HBy.out⟩
 clear hr
 have hg0 := (HV.out.2.2.2 w' br).1
 go_wp2_with (refine wpList_load_row rfl 31 _ rfl (w.heap.size) rfl 31 _ (0,0) _ hg0 Tryz.underlying31 rfl (by kernel_rfl) ?_)
 clear hg0
 refine (HFa_.out _).mono ?_
 rintro e v1 ⟨rfl,hb⟩
 generalize Value.agg #[.bool i0,.bool n00,.string s00,.bool n01,.string s01,.bool n02,.string s02,.bool n03,.string s03,.bool i1,.bool n10,.string s10,.bool n11,.string s11,.bool n12,.string s12,.bool n13,.string s13,.bool i2,.bool n20,.string s20,.bool n21,.string s21,.bool n22,.string s22,.bool n23,.string s23,.bool i3,.bool n30,.string s30,.bool n31,.string s31,.bool n32,.string s32,.bool n33,.string s33,.bool g00,.string t00,.bool g01,.string t01,.bool g02,.string t02,.bool g03,.string t03,.bool g10,.string t10,.bool g11,.string t11,.bool g12,.string t12,.bool g13,.string t13,.bool g20,.string t20,.bool g21,.string t21,.bool g22,.string t22,.bool g23,.string t23] = big1
 obtain ⟨x1,hx1⟩ : ∃ x,x = v1.alloc (.cells #[.bool false,.bool false,.string ⟨#[]⟩,.bool false,.string ⟨#[]⟩,.bool false,.string ⟨#[]⟩,.bool false,.string ⟨#[]⟩,.bool false,.bool false,.string ⟨#[]⟩,.bool false,.string ⟨#[]⟩,.bool false,.string ⟨#[]⟩,.bool false,.string ⟨#[]⟩,.bool false,.bool false,.string ⟨#[]⟩,.bool false,.string ⟨#[]⟩,.bool false,.string ⟨#[]⟩,.bool false,.string ⟨#[]⟩] 37) := ⟨_,rfl⟩
 have hb1 : Below w'.heap.size w' x1 := by rw [hx1]; exact alloc_tail hb
 have hr1 : x1.heap[v1.heap.size]? = some (.cells #[.bool false,.bool false,.string ⟨#[]⟩,.bool false,.string ⟨#[]⟩,.bool false,.string ⟨#[]⟩,.bool false,.string ⟨#[]⟩,.bool false,.bool false,.string ⟨#[]⟩,.bool false,.string ⟨#[]⟩,.bool false,.string ⟨#[]⟩,.bool false,.string ⟨#[]⟩,.bool false,.bool false,.string ⟨#[]⟩,.bool false,.string ⟨#[]⟩,.bool false,.string ⟨#[]⟩,.bool false,.string ⟨#[]⟩] 37 (0,0)) := by rw [hx1]; exact heap_alloc_new v1 _
 have hb2 : Below w'.heap.size w' (x1.setRow v1.heap.size #[.bool false,.bool false,.string ⟨#[]⟩,.bool false,.string ⟨#[]⟩,.bool false,.string ⟨#[]⟩,.bool false,.string ⟨#[]⟩,.bool false,.bool false,.string ⟨#[]⟩,.bool false,.string ⟨#[]⟩,.bool false,.string ⟨#[]⟩,.bool false,.string ⟨#[]⟩,.bool false,.bool false,.string ⟨#[]⟩,.bool false,.string ⟨#[]⟩,.bool false,.string ⟨#[]⟩,.bool false,.string ⟨#[]⟩]) := below_setRow hb1 hb.size _
 have hr2 : (x1.setRow v1.heap.size #[.bool false,.bool false,.string ⟨#[]⟩,.bool false,.string ⟨#[]⟩,.bool false,.string ⟨#[]⟩,.bool false,.string ⟨#[]⟩,.bool false,.bool false,.string ⟨#[]⟩,.bool false,.string ⟨#[]⟩,.bool false,.string ⟨#[]⟩,.bool false,.string ⟨#[]⟩,.bool false,.bool false,.string ⟨#[]⟩,.bool false,.string ⟨#[]⟩,.bool false,.string ⟨#[]⟩,.bool false,.string ⟨#[]⟩]).heap[v1.heap.size]? = some (.cells #[.bool false,.bool false,.string ⟨#[]⟩,.bool false,.string ⟨#[]⟩,.bool false,.string ⟨#[]⟩,.bool false,.string ⟨#[]⟩,.bool false,.bool false,.string ⟨#[]⟩,.bool false,.string ⟨#[]⟩,.bool false,.string ⟨#[]⟩,.bool false,.string ⟨#[]⟩,.bool false,.bool false,.string ⟨#[]⟩,.bool false,.string ⟨#[]⟩,.bool false,.string ⟨#[]⟩,.bool false,.string ⟨#[]⟩] 37 (0,0)) := setRow_heap x1 v1.heap.size _ #[.bool false,.bool false,.string ⟨#[]⟩,.bool false,.string ⟨#[]⟩,.bool false,.string ⟨#[]⟩,.bool false,.string ⟨#[]⟩,.bool false,.bool false,.string ⟨#[]⟩,.bool false,.string ⟨#[]⟩,.bool false,.string ⟨#[]⟩,.bool false,.string ⟨#[]⟩,.bool false,.bool false,.string ⟨#[]⟩,.bool false,.string ⟨#[]⟩,.bool false,.string ⟨#[]⟩,.bool false,.string ⟨#[]⟩] _ _ hr1
 obtain ⟨x2,hx2⟩ : ∃ x,x = x1.setRow v1.heap.size #[.bool false,.bool false,.string ⟨#[]⟩,.bool false,.string ⟨#[]⟩,.bool false,.string ⟨#[]⟩,.bool false,.string ⟨#[]⟩,.bool false,.bool false,.string ⟨#[]⟩,.bool false,.string ⟨#[]⟩,.bool false,.string ⟨#[]⟩,.bool false,.string ⟨#[]⟩,.bool false,.bool false,.string ⟨#[]⟩,.bool false,.string ⟨#[]⟩,.bool false,.string ⟨#[]⟩,.bool false,.string ⟨#[]⟩] := ⟨_,rfl⟩
 rw [← hx2] at hb2 hr2
 have hg2 := (HV.out.2.2.2 x2 hb2).1
 have HX := Lib.hid (And.intro hx2 hx1)
 have HB2 := Lib.hid hb2
 rw [hx1] at hx2
 rw [hx1] at hr1
 rw [hx2] at hr2 hg2
 clear hx1 hb1 hb2 hb HFa_
 have hne : (ke == 0) = false := by simp; omega
 go_upto_region 4 with (refine wpList_store_row rfl 37 _ _ rfl v1.heap.size #[.bool false,.bool false,.string ⟨#[]⟩,.bool false,.string ⟨#[]⟩,.bool false,.string ⟨#[]⟩,.bool false,.string ⟨#[]⟩,.bool false,.bool false,.string ⟨#[]⟩,.bool false,.string ⟨#[]⟩,.bool false,.string ⟨#[]⟩,.bool false,.string ⟨#[]⟩,.bool false,.bool false,.string ⟨#[]⟩,.bool false,.string ⟨#[]⟩,.bool false,.string ⟨#[]⟩,.bool false,.string ⟨#[]⟩] rfl rfl 37 _ hr1 (by kernel_rfl) (by kernel_rfl) (by kernel_rfl) ?_)
 refine wp_region_lit ?_
 iterate 9 go_step
 go_skip
 iterate 4 go_step
 go_wp2_with (first
   | (refine wpList_load_part (by kernel_rfl) 29 _ rfl w.heap.size 0 rfl 31 _ #[.bool i0,.bool n00,.string s00,.bool n01,.string s01,.bool n02,.string s02,.bool n03,.string s03] (0,0) _ hg2 Tryz.underlying29 rfl (by kernel_rfl) (by kernel_rfl) ?_)
   | (refine wpList_load_part (by kernel_rfl) 29 _ rfl w.heap.size 9 rfl 31 _ #[.bool i1,.bool n10,.string s10,.bool n11,.string s11,.bool n12,.string s12,.bool n13,.string s13] (0,0) _ hg2 Tryz.underlying29 rfl (by kernel_rfl) (by kernel_rfl) ?_)
   | (refine wpList_load_part (by kernel_rfl) 29 _ rfl w.heap.size 18 rfl 31 _ #[.bool i2,.bool n20,.string s20,.bool n21,.string s21,.bool n22,.string s22,.bool n23,.string s23] (0,0) _ hg2 Tryz.underlying29 rfl (by kernel_rfl) (by kernel_rfl) ?_)
   | (refine wpList_load_part (by kernel_rfl) 29 _ rfl w.heap.size 27 rfl 31 _ #[.bool i3,.bool n30,.string s30,.bool n31,.string s31,.bool n32,.string s32,.bool n33,.string s33] (0,0) _ hg2 Tryz.underlying29 rfl (by kernel_rfl) (by kernel_rfl) ?_)
   | (refine wpList_load_part (by kernel_rfl) 27 _ rfl w.heap.size 36 rfl 31 _ #[.bool g00,.string t00,.bool g01,.string t01,.bool g02,.string t02,.bool g03,.string t03] (0,0) _ hg2 Tryz.underlying27 rfl (by kernel_rfl) (by kernel_rfl) ?_))
 rw [← hx2]
 clear hr1 hr2 hg2 hx2
 refine (HCo_.out _).mono ?_
 rintro e v2 ⟨rfl,hb⟩
 have hb3 := HB2.out.trans (hb.mono HB2.out.size)
 obtain ⟨x3,hx3⟩ : ∃ x,x = v2.alloc (.cells #[.bool pi,.bool pn1,.string ps1,.bool pn2,.string ps2,.bool pn3,.string ps3,.bool pn4,.string ps4] 29) := ⟨_,rfl⟩
 have hb4 : Below w'.heap.size w' x3 := by rw [hx3]; exact alloc_tail hb3
 have hr3 : x3.heap[v2.heap.size]? = some (.cells #[.bool pi,.bool pn1,.string ps1,.bool pn2,.string ps2,.bool pn3,.string ps3,.bool pn4,.string ps4] 29 (0,0)) := by rw [hx3]; exact heap_alloc_new v2 _
 have hl3 : v2.heap.size < x3.heap.size := (Array.getElem?_eq_some_iff.1 hr3).1
 have hg3 := (HV.out.2.2.2 x3 hb4).1
 have HX3 := Lib.hid (And.intro hb4 (And.intro hr3 hl3))
 rw [hx3] at hr3 hg3
 clear hb hb3 hb4 hl3 HB2 HX HCo_
 go_wp2_with (first
   | (refine wpList_load_part (by kernel_rfl) 29 _ rfl v2.heap.size 0 rfl 29 _ #[.bool pi,.bool pn1,.string ps1,.bool pn2,.string ps2,.bool pn3,.string ps3,.bool pn4,.string ps4] (0,0) _ hr3 Tryz.underlying29 rfl (by kernel_rfl) (by kernel_rfl) ?_)
   | (refine wpList_load_part (by kernel_rfl) 29 _ rfl w.heap.size 0 rfl 31 _ #[.bool i0,.bool n00,.string s00,.bool n01,.string s01,.bool n02,.string s02,.bool n03,.string s03] (0,0) _ hg3 Tryz.underlying29 rfl (by kernel_rfl) (by kernel_rfl) ?_)
   | (refine wpList_load_part (by kernel_rfl) 29 _ rfl w.heap.size 9 rfl 31 _ #[.bool i1,.bool n10,.string s10,.bool n11,.string s11,.bool n12,.string s12,.bool n13,.string s13] (0,0) _ hg3 Tryz.underlying29 rfl (by kernel_rfl) (by kernel_rfl) ?_)
   | (refine wpList_load_part (by kernel_rfl) 29 _ rfl w.heap.size 18 rfl 31 _ #[.bool i2,.bool n20,.string s20,.bool n21,.string s21,.bool n22,.string s22,.bool n23,.string s23] (0,0) _ hg3 Tryz.underlying29 rfl (by kernel_rfl) (by kernel_rfl) ?_)
   | (refine wpList_load_part (by kernel_rfl) 29 _ rfl w.heap.size 27 rfl 31 _ #[.bool i3,.bool n30,.string s30,.bool n31,.string s31,.bool n32,.string s32,.bool n33,.string s33] (0,0) _ hg3 Tryz.underlying29 rfl (by kernel_rfl) (by kernel_rfl) ?_)
   | (refine wpList_load_part (by kernel_rfl) 27 _ rfl w.heap.size 36 rfl 31 _ #[.bool g00,.string t00,.bool g01,.string t01,.bool g02,.string t02,.bool g03,.string t03] (0,0) _ hg3 Tryz.underlying27 rfl (by kernel_rfl) (by kernel_rfl) ?_))
 rw [← hx3]
 clear hr3 hg3 hx3
 refine (HRa_.out _).mono ?_
 rintro e v3 ⟨rfl,hb⟩
 obtain ⟨x4,hx4⟩ : ∃ x,x = v3.alloc (.cells #[.bool false,.bool g00,.string t00,.bool g01,.string t01,.bool g02,.string t02,.bool g03,.string t03] 29) := ⟨_,rfl⟩
 have hr4 : x4.heap[v3.heap.size]? = some (.cells #[.bool false,.bool g00,.string t00,.bool g01,.string t01,.bool g02,.string t02,.bool g03,.string t03] 29 (0,0)) := by rw [hx4]; exact heap_alloc_new v3 _
 have hl4 : v3.heap.size < x4.heap.size := (Array.getElem?_eq_some_iff.1 hr4).1
 have hb4 : Below x3.heap.size x3 x4 := by rw [hx4]; exact alloc_tail hb
 have hp4 : x4.heap[v2.heap.size]? = some (.cells #[.bool pi,.bool pn1,.string ps1,.bool pn2,.string ps2,.bool pn3,.string ps3,.bool pn4,.string ps4] 29 (0,0)) := (hb4.block _ HX3.out.2.2).trans HX3.out.2.1
 have hw4 : Below w'.heap.size w' x4 := HX3.out.1.trans (hb4.mono HX3.out.1.size)
 have HX4 := Lib.hid (And.intro hw4 (And.intro hp4 (And.intro hr4 hl4)))
 clear hb hb4 hp4 hw4 hr4 hl4 HX3 HRa_
 go_wp2_with fail
 rw [← hx4]
 clear hx4
 have hg4 : x4.drew.heap[w.heap.size]? = some (.cells #[.bool i0,.bool n00,.string s00,.bool n01,.string s01,.bool n02,.string s02,.bool n03,.string s03,.bool i1,.bool n10,.string s10,.bool n11,.string s11,.bool n12,.string s12,.bool n13,.string s13,.bool i2,.bool n20,.string s20,.bool n21,.string s21,.bool n22,.string s22,.bool n23,.string s23,.bool i3,.bool n30,.string s30,.bool n31,.string s31,.bool n32,.string s32,.bool n33,.string s33,.bool g00,.string t00,.bool g01,.string t01,.bool g02,.string t02,.bool g03,.string t03,.bool g10,.string t10,.bool g11,.string t11,.bool g12,.string t12,.bool g13,.string t13,.bool g20,.string t20,.bool g21,.string t21,.bool g22,.string t22,.bool g23,.string t23] 31 (0,0)) := (HV.out.2.2.2 x4 HX4.out.1).1
 have hs4 : w.heap.size < x4.drew.heap.size := (Array.getElem?_eq_some_iff.1 hg4).1
 refine wp_region_own [(.val,[]),(.lit,[]),(.lit,[]),(.val,[0]),(.val,[3]),(.val,[4]),(.val,[4]),(.new (.cells #[.bool false,.string ⟨#[]⟩,.bool false,.string ⟨#[]⟩,.bool false,.string ⟨#[]⟩,.bool false,.string ⟨#[]⟩] 27 (0,0)),[]),(.st 7 (.cells #[.bool false,.string ⟨#[]⟩,.bool false,.string ⟨#[]⟩,.bool false,.string ⟨#[]⟩,.bool false,.string ⟨#[]⟩] 27 (0,0)),[5])]
  (pickF [(0,fun v _ _ => v = .agg #[.bool un1,.string us1,.bool un2,.string us2,.bool un3,.string us3,.bool un4,.string us4]),(3,fun v _ _ => v = .tuple #[.agg #[.bool dn1,.string ds1,.bool dn2,.string ds2,.bool dn3,.string ds3,.bool dn4,.string ds4],.int .i64 0]),(4,fun v _ _ => v = .tuple #[.agg #[.bool dn1,.string ds1,.bool dn2,.string ds2,.bool dn3,.string ds3,.bool dn4,.string ds4],.int .i64 0]),(5,fun v _ _ => v = .agg #[.bool dn1,.string ds1,.bool dn2,.string ds2,.bool dn3,.string ds3,.bool dn4,.string ds4]),(6,fun v _ _ => v = .int .i64 0),(8,RowB #[.bool dn1,.string ds1,.bool dn2,.string ds2,.bool dn3,.string ds3,.bool dn4,.string ds4] 27)]) (by kernel_rfl) ?_ ?_ ?_ (by simp) (by kernel_rfl)
 ·exact keeps_pick (by
   simp only [List.mem_cons,List.not_mem_nil,or_false]
   rintro p (rfl | rfl | rfl | rfl | rfl | rfl)
   ·exact keeps_pure _
   ·exact keeps_pure _
   ·exact keeps_pure _
   ·exact keeps_pure _
   ·exact keeps_pure _
   ·exact RowB.keeps _ _)
 rotate_left
 ·intro q hq z hz
  have : z = .cells #[.bool false,.string ⟨#[]⟩,.bool false,.string ⟨#[]⟩,.bool false,.string ⟨#[]⟩,.bool false,.string ⟨#[]⟩] 27 (0,0) := by
   simp only [List.mem_cons,List.not_mem_nil,or_false] at hq
   rcases hq with rfl | rfl | rfl | rfl | rfl | rfl | rfl | rfl | rfl <;> simp at hz <;> exact hz.symm
  rw [this]; exact noW_plain _ rfl
 refine ⟨fun f w1 A1 k1 hA hN hd K hK => by
  go_simp
  refine (HIn_.out w1).mono ?_
  rintro e y ⟨rfl,hb⟩
  exact hK _ _ hb rfl,?_⟩
 simp only [Act.put,nrA,nrB,nrC,Nat.reduceAdd]
 refine ⟨_,fun f w1 h1 => by (go_simp; rfl),?_⟩
 simp only [Act.put,nrA,nrB,nrC,Nat.reduceAdd]
 refine ⟨_,fun f w1 h1 => exec_load_part 27 _ rfl w.heap.size 36 rfl 31 _ #[.bool g00,.string t00,.bool g01,.string t01,.bool g02,.string t02,.bool g03,.string t03] (0,0) _ ((h1.block _ hs4).trans hg4) Tryz.underlying27 rfl (by kernel_rfl) (by kernel_rfl),?_⟩
 simp only [Act.put,nrA,nrB,nrC,Nat.reduceAdd]
 refine ⟨fun f w1 A1 k1 hA hN hd K hK => by
  have i : f 0 = .agg #[.bool un1,.string us1,.bool un2,.string us2,.bool un3,.string us3,.bool un4,.string us4] := hd 0 (by simp)
  simp only [i] at hK ⊢
  go_simp
  refine (HDi_.out w1).mono ?_
  rintro e y ⟨rfl,hb⟩
  exact hK _ _ hb rfl,?_⟩
 simp only [Act.put,nrA,nrB,nrC,Nat.reduceAdd]
 refine ⟨fun f w1 A1 k1 hA hN hd K hK => by
  have i : f 3 = .tuple #[.agg #[.bool dn1,.string ds1,.bool dn2,.string ds2,.bool dn3,.string ds3,.bool dn4,.string ds4],.int .i64 0] := hd 3 (by simp)
  simp only [i] at hK ⊢
  go_simp
  exact hK _ _ br rfl,?_⟩
 simp only [Act.put,nrA,nrB,nrC,Nat.reduceAdd]
 refine ⟨fun f w1 A1 k1 hA hN hd K hK => by
  have i : f 4 = .tuple #[.agg #[.bool dn1,.string ds1,.bool dn2,.string ds2,.bool dn3,.string ds3,.bool dn4,.string ds4],.int .i64 0] := hd 4 (by simp)
  simp only [i] at hK ⊢
  go_simp
  exact hK _ _ br rfl,?_⟩
 simp only [Act.put,nrA,nrB,nrC,Nat.reduceAdd]
 refine ⟨fun f w1 A1 k1 hA hN hd K hK => by
  have i : f 4 = .tuple #[.agg #[.bool dn1,.string ds1,.bool dn2,.string ds2,.bool dn3,.string ds3,.bool dn4,.string ds4],.int .i64 0] := hd 4 (by simp)
  simp only [i] at hK ⊢
  go_simp
  exact hK _ _ br rfl,?_⟩
 simp only [Act.put,nrA,nrB,nrC,Nat.reduceAdd]
 refine ⟨fun f w => by go_simp,?_⟩
 simp only [Act.put,nrA,nrB,nrC,Nat.reduceAdd]
 refine ⟨fun f w1 A1 m k1 hA hN hAm hm0 e hz hd K hK => by
  have i : f 5 = .agg #[.bool dn1,.string ds1,.bool dn2,.string ds2,.bool dn3,.string ds3,.bool dn4,.string ds4] := hd 5 (by simp)
  simp only [e,i] at hK ⊢
  have y0 := cell_at (o := 0) hz rfl
  have y1 := cell_at (o := 1) hz rfl
  have y2 := cell_at (o := 2) hz rfl
  have y3 := cell_at (o := 3) hz rfl
  have y4 := cell_at (o := 4) hz rfl
  have y5 := cell_at (o := 5) hz rfl
  have y6 := cell_at (o := 6) hz rfl
  have y7 := cell_at (o := 7) hz rfl
  go_simp
  refine hK _ ?_ ⟨m,rfl,by simp,set8_part hz (by rfl)⟩
  exact (((((((((Mod.refl m w1).setCell 0 _).setCell 1 _).setCell 2 _).setCell 3 _).setCell 4 _).setCell 5 _).setCell 6 _).setCell 7 _),?_⟩
 intro f v4 A1 h4 hA1 hfr hap hF
 obtain ⟨m4,em,_,hr5⟩ : RowB #[.bool dn1,.string ds1,.bool dn2,.string ds2,.bool dn3,.string ds3,.bool dn4,.string ds4] 27 (f 7) v4 A1 := hF.2
 have iC : f 6 = .int .i64 0 := hF.1.2
 clear hF hap hA1 hfr
 dsimp only
 rw [em,iC]
 generalize f 0 = f0
 generalize f 3 = f3
 generalize f 4 = f4
 generalize f 5 = f5
 clear em iC
 have hb5 : Below x4.heap.size x4 v4 := br.drew.trans h4
 have hw5 : Below w'.heap.size w' v4 := HX4.out.1.trans (hb5.mono HX4.out.1.size)
 have hp5 : v4.heap[v2.heap.size]? = some (.cells #[.bool pi,.bool pn1,.string ps1,.bool pn2,.string ps2,.bool pn3,.string ps3,.bool pn4,.string ps4] 29 (0,0)) := (hb5.block _ (Array.getElem?_eq_some_iff.1 HX4.out.2.1).1).trans HX4.out.2.1
 have hq5 : v4.heap[v3.heap.size]? = some (.cells #[.bool false,.bool g00,.string t00,.bool g01,.string t01,.bool g02,.string t02,.bool g03,.string t03] 29 (0,0)) := (hb5.block _ HX4.out.2.2.2).trans HX4.out.2.2.1
 have hg5 := (HV.out.2.2.2 v4 hw5).1
 have HX5 := Lib.hid (And.intro hw5 (And.intro hp5 hq5))
 clear hb5 hw5 hp5 hq5 h4 hg4 hs4 HX4 HIn_ HDi_
 go_wp2_with (first
   | (refine wpList_load_part (by kernel_rfl) 27 _ rfl m4 0 rfl 27 _ #[.bool dn1,.string ds1,.bool dn2,.string ds2,.bool dn3,.string ds3,.bool dn4,.string ds4] (0,0) _ hr5 Tryz.underlying27 rfl (by kernel_rfl) (by kernel_rfl) ?_)
   | (refine wpList_load_part (by kernel_rfl) 29 _ rfl w.heap.size 0 rfl 31 _ #[.bool i0,.bool n00,.string s00,.bool n01,.string s01,.bool n02,.string s02,.bool n03,.string s03] (0,0) _ hg5 Tryz.underlying29 rfl (by kernel_rfl) (by kernel_rfl) ?_)
   | (refine wpList_load_part (by kernel_rfl) 29 _ rfl w.heap.size 9 rfl 31 _ #[.bool i1,.bool n10,.string s10,.bool n11,.string s11,.bool n12,.string s12,.bool n13,.string s13] (0,0) _ hg5 Tryz.underlying29 rfl (by kernel_rfl) (by kernel_rfl) ?_)
   | (refine wpList_load_part (by kernel_rfl) 29 _ rfl w.heap.size 18 rfl 31 _ #[.bool i2,.bool n20,.string s20,.bool n21,.string s21,.bool n22,.string s22,.bool n23,.string s23] (0,0) _ hg5 Tryz.underlying29 rfl (by kernel_rfl) (by kernel_rfl) ?_)
   | (refine wpList_load_part (by kernel_rfl) 29 _ rfl w.heap.size 27 rfl 31 _ #[.bool i3,.bool n30,.string s30,.bool n31,.string s31,.bool n32,.string s32,.bool n33,.string s33] (0,0) _ hg5 Tryz.underlying29 rfl (by kernel_rfl) (by kernel_rfl) ?_)
   | (refine wpList_load_part (by kernel_rfl) 27 _ rfl w.heap.size 36 rfl 31 _ #[.bool g00,.string t00,.bool g01,.string t01,.bool g02,.string t02,.bool g03,.string t03] (0,0) _ hg5 Tryz.underlying27 rfl (by kernel_rfl) (by kernel_rfl) ?_))
 clear hg5 hr5
 refine (HCp_.out _).mono ?_
 rintro e v5 ⟨rfl,hb⟩
 obtain ⟨x6,hx6⟩ : ∃ x,x = v5.alloc (.cells #[.bool pi,.bool pn1,.string ps1,.bool pn2,.string ps2,.bool pn3,.string ps3,.bool pn4,.string ps4] 29) := ⟨_,rfl⟩
 have hr6 : x6.heap[v5.heap.size]? = some (.cells #[.bool pi,.bool pn1,.string ps1,.bool pn2,.string ps2,.bool pn3,.string ps3,.bool pn4,.string ps4] 29 (0,0)) := by rw [hx6]; exact heap_alloc_new v5 _
 have hb6 : Below v4.heap.size v4 x6 := by rw [hx6]; exact alloc_tail hb
 have hp6 : x6.heap[v2.heap.size]? = some (.cells #[.bool pi,.bool pn1,.string ps1,.bool pn2,.string ps2,.bool pn3,.string ps3,.bool pn4,.string ps4] 29 (0,0)) := (hb6.block _ (Array.getElem?_eq_some_iff.1 HX5.out.2.1).1).trans HX5.out.2.1
 have hq6 : x6.heap[v3.heap.size]? = some (.cells #[.bool false,.bool g00,.string t00,.bool g01,.string t01,.bool g02,.string t02,.bool g03,.string t03] 29 (0,0)) := (hb6.block _ (Array.getElem?_eq_some_iff.1 HX5.out.2.2).1).trans HX5.out.2.2
 have hw6 : Below w'.heap.size w' x6 := HX5.out.1.trans (hb6.mono HX5.out.1.size)
 have hg6 := (HV.out.2.2.2 x6 hw6).1
 have HB6 := Lib.hid (HV.out.2.1.trans (hw6.mono HV.out.2.1.size))
 have ne0 := fun w => run_neq_pt w pi pn1 pn2 pn3 pn4 i0 n00 n01 n02 n03 ps1 ps2 ps3 ps4 s00 s01 s02 s03 true (by simpa using hn0)
 have ne1 := fun w => run_neq_pt w pi pn1 pn2 pn3 pn4 i1 n10 n11 n12 n13 ps1 ps2 ps3 ps4 s10 s11 s12 s13 true (by simpa using hn1)
 have ne2 := fun w => run_neq_pt w pi pn1 pn2 pn3 pn4 i2 n20 n21 n22 n23 ps1 ps2 ps3 ps4 s20 s21 s22 s23 true (by simpa using hn2)
 have eq0 := fun w => run_eql_pt w pi pn1 pn2 pn3 pn4 pi pn1 pn2 pn3 pn4 ps1 ps2 ps3 ps4 ps1 ps2 ps3 ps4 true (by simp)
 have eq1 := fun w => run_eql_pt w false g00 g01 g02 g03 false g00 g01 g02 g03 t00 t01 t02 t03 t00 t01 t02 t03 true (by simp)
 rw [hx6] at hr6 hp6 hq6 hg6 HB6
 clear hb hb6 hw6 hx6 HX5 HCp_ hn0 hn1 hn2
 go_wp2_with (first
   | (refine wpList_load_part (by kernel_rfl) 29 _ rfl v3.heap.size 0 rfl 29 _ #[.bool false,.bool g00,.string t00,.bool g01,.string t01,.bool g02,.string t02,.bool g03,.string t03] (0,0) _ hq6 Tryz.underlying29 rfl (by kernel_rfl) (by kernel_rfl) ?_)
   | (refine wpList_load_part (by kernel_rfl) 29 _ rfl v2.heap.size 0 rfl 29 _ #[.bool pi,.bool pn1,.string ps1,.bool pn2,.string ps2,.bool pn3,.string ps3,.bool pn4,.string ps4] (0,0) _ hp6 Tryz.underlying29 rfl (by kernel_rfl) (by kernel_rfl) ?_)
   | (refine wpList_load_part (by kernel_rfl) 29 _ rfl v5.heap.size 0 rfl 29 _ #[.bool pi,.bool pn1,.string ps1,.bool pn2,.string ps2,.bool pn3,.string ps3,.bool pn4,.string ps4] (0,0) _ hr6 Tryz.underlying29 rfl (by kernel_rfl) (by kernel_rfl) ?_)
   | (refine wpList_load_part (by kernel_rfl) 29 _ rfl w.heap.size 0 rfl 31 _ #[.bool i0,.bool n00,.string s00,.bool n01,.string s01,.bool n02,.string s02,.bool n03,.string s03] (0,0) _ hg6 Tryz.underlying29 rfl (by kernel_rfl) (by kernel_rfl) ?_)
   | (refine wpList_load_part (by kernel_rfl) 29 _ rfl w.heap.size 9 rfl 31 _ #[.bool i1,.bool n10,.string s10,.bool n11,.string s11,.bool n12,.string s12,.bool n13,.string s13] (0,0) _ hg6 Tryz.underlying29 rfl (by kernel_rfl) (by kernel_rfl) ?_)
   | (refine wpList_load_part (by kernel_rfl) 29 _ rfl w.heap.size 18 rfl 31 _ #[.bool i2,.bool n20,.string s20,.bool n21,.string s21,.bool n22,.string s22,.bool n23,.string s23] (0,0) _ hg6 Tryz.underlying29 rfl (by kernel_rfl) (by kernel_rfl) ?_)
   | (refine wpList_load_part (by kernel_rfl) 29 _ rfl w.heap.size 27 rfl 31 _ #[.bool i3,.bool n30,.string s30,.bool n31,.string s31,.bool n32,.string s32,.bool n33,.string s33] (0,0) _ hg6 Tryz.underlying29 rfl (by kernel_rfl) (by kernel_rfl) ?_)
   | (refine wpList_load_part (by kernel_rfl) 27 _ rfl w.heap.size 36 rfl 31 _ #[.bool g00,.string t00,.bool g01,.string t01,.bool g02,.string t02,.bool g03,.string t03] (0,0) _ hg6 Tryz.underlying27 rfl (by kernel_rfl) (by kernel_rfl) ?_))
 clear hr6 hp6 hq6 hg6
 refine (Known_any _).mono ?_
 rintro e y ⟨rfl,hb⟩
 have HBy := Lib.hid (HB6.out.trans (hb.mono HB6.out.size))
 clear hb
 go_wp2_with fail
 go_ret
 exact ⟨rfl,HBy.out⟩
end Go.Proofs.YtepefgkihnjjaaaGreat
