/- Laws for the walk. -/
import Derived.Test.YtepefgkihnjjaaaGreatZzz
import Derived.Test.YtepefgkihnjjaaaGreatZbf
set_option linter.unusedVariables false
namespace Go.Proofs.YtepefgkihnjjaaaGreat
open Go.RowKit Tr
set_option maxRecDepth 100000 in
set_option maxHeartbeats 25600000 in
theorem faces_good (i0 i1 i2 i3 n00 n01 n02 n03 n10 n11 n12 n13 n20 n21 n22 n23 n30 n31 n32 n33 g00 g01 g02 g03 g10 g11 g12 g13 g20 g21 g22 g23 : Bool) (s00 s01 s02 s03 s10 s11 s12 s13 s20 s21 s22 s23 s30 s31 s32 s33 t00 t01 t02 t03 t10 t11 t12 t13 t20 t21 t22 t23 : ByteArray) (p0 p1 p2 p3 : Pt) (a b c : QC) (e0 : encP p0 = .agg #[.bool i0,.bool n00,.string s00,.bool n01,.string s01,.bool n02,.string s02,.bool n03,.string s03]) (e1 : encP p1 = .agg #[.bool i1,.bool n10,.string s10,.bool n11,.string s11,.bool n12,.string s12,.bool n13,.string s13]) (e2 : encP p2 = .agg #[.bool i2,.bool n20,.string s20,.bool n21,.string s21,.bool n22,.string s22,.bool n23,.string s23]) (e3 : encP p3 = .agg #[.bool i3,.bool n30,.string s30,.bool n31,.string s31,.bool n32,.string s32,.bool n33,.string s33]) (f0 : encQ a = .agg #[.bool g00,.string t00,.bool g01,.string t01,.bool g02,.string t02,.bool g03,.string t03]) (f1 : encQ b = .agg #[.bool g10,.string t10,.bool g11,.string t11,.bool g12,.string t12,.bool g13,.string t13]) (f2 : encQ c = .agg #[.bool g20,.string t20,.bool g21,.string t21,.bool g22,.string t22,.bool g23,.string t23])
  (sp0 : ShortP p0) (sp1 : ShortP p1) (sp2 : ShortP p2) (sp3 : ShortP p3) (sa : ShortZ a) (sb : ShortZ b) (sc : ShortZ c) (a0 : a ≠ ⟨0,0⟩) (b0 : b ≠ ⟨0,0⟩) (c0 : c ≠ ⟨0,0⟩)
  (HC0 : ∀ w,Calls Tryz.prog 37 #[.agg #[.bool i0,.bool n00,.string s00,.bool n01,.string s01,.bool n02,.string s02,.bool n03,.string s03,.bool i1,.bool n10,.string s10,.bool n11,.string s11,.bool n12,.string s12,.bool n13,.string s13,.bool i2,.bool n20,.string s20,.bool n21,.string s21,.bool n22,.string s22,.bool n23,.string s23,.bool i3,.bool n30,.string s30,.bool n31,.string s31,.bool n32,.string s32,.bool n33,.string s33,.bool g00,.string t00,.bool g01,.string t01,.bool g02,.string t02,.bool g03,.string t03,.bool g10,.string t10,.bool g11,.string t11,.bool g12,.string t12,.bool g13,.string t13,.bool g20,.string t20,.bool g21,.string t21,.bool g22,.string t22,.bool g23,.string t23]] w fun e w' => e = .returned (.int .i64 0) ∧ Below w.heap.size w w') (w : World) :
  Calls Tryz.prog 16 #[.agg #[.bool i0,.bool n00,.string s00,.bool n01,.string s01,.bool n02,.string s02,.bool n03,.string s03,.bool i1,.bool n10,.string s10,.bool n11,.string s11,.bool n12,.string s12,.bool n13,.string s13,.bool i2,.bool n20,.string s20,.bool n21,.string s21,.bool n22,.string s22,.bool n23,.string s23,.bool i3,.bool n30,.string s30,.bool n31,.string s31,.bool n32,.string s32,.bool n33,.string s33,.bool g00,.string t00,.bool g01,.string t01,.bool g02,.string t02,.bool g03,.string t03,.bool g10,.string t10,.bool g11,.string t11,.bool g12,.string t12,.bool g13,.string t13,.bool g20,.string t20,.bool g21,.string t21,.bool g22,.string t22,.bool g23,.string t23],.int .i64 3] w fun e w' => e = .returned (.tuple #[facesV p0 p1 p2 p3 a b c,.int .i64 (facesC p0 p1 p2 p3 a b c)]) ∧ Below w.heap.size w w' := by
 have HC := Lib.hid HC0
 have HP0 := Lib.hid (point_of p0 sp0 _ e0)
 have HP1 := Lib.hid (point_of p1 sp1 _ e1)
 have HP2 := Lib.hid (point_of p2 sp2 _ e2)
 have HP3 := Lib.hid (point_of p3 sp3 _ e3)
 have HOA := Lib.hid (of_of a sa _ f0)
 have HOB := Lib.hid (of_of b sb _ f1)
 have HOC := Lib.hid (of_of c sc _ f2)
 have HN := Lib.hid (And.intro a0 (And.intro b0 c0))
 have HS := Lib.hid (And.intro sp0 (And.intro sp1 (And.intro sp2 (And.intro sp3 (And.intro sa (And.intro sb sc))))))
 clear HC0 e0 e1 e2 e3 f0 f1 f2 a0 b0 c0 sp0 sp1 sp2 sp3 sa sb sc
 obtain ⟨W,HV⟩ := fcbox w (.bool i0) (.bool n00) (.string s00) (.bool n01) (.string s01) (.bool n02) (.string s02) (.bool n03) (.string s03) (.bool i1) (.bool n10) (.string s10) (.bool n11) (.string s11) (.bool n12) (.string s12) (.bool n13) (.string s13) (.bool i2) (.bool n20) (.string s20) (.bool n21) (.string s21) (.bool n22) (.string s22) (.bool n23) (.string s23) (.bool i3) (.bool n30) (.string s30) (.bool n31) (.string s31) (.bool n32) (.string s32) (.bool n33) (.string s33) (.bool g00) (.string t00) (.bool g01) (.string t01) (.bool g02) (.string t02) (.bool g03) (.string t03) (.bool g10) (.string t10) (.bool g11) (.string t11) (.bool g12) (.string t12) (.bool g13) (.string t13) (.bool g20) (.string t20) (.bool g21) (.string t21) (.bool g22) (.string t22) (.bool g23) (.string t23)
 obtain ⟨kc,hkc⟩ : ∃ kc,kc = facesC p0 p1 p2 p3 a b c := ⟨_,rfl⟩
 obtain ⟨vc,hvc⟩ : ∃ vc,vc = facesV p0 p1 p2 p3 a b c := ⟨_,rfl⟩
 rw [← hkc,← hvc]
 have HKV := Lib.hid (And.intro hkc hvc)
 clear hkc hvc
 have hgc := (HV.out.2.2.2 W br).1
 rw [HV.out.1] at hgc
 go_enter Tryz.func16,Tryz.ntmps16
 go_wp2_with (first
  | (refine Go.Great.wpList_boxTo rfl 31 _ rfl (some 2) rfl w.heap.size rfl _ rfl ?_)
  | (refine wpList_load_row rfl 31 _ rfl (w.heap.size) rfl 31 _ (0,0) _ hgc Tryz.underlying31 rfl (by kernel_rfl) ?_))
 try simp only [Nat.add_assoc,Nat.reduceAdd]
 rw [← HV.out.1]
 clear hgc
 refine (HC.out _).mono ?_
 rintro e w1 ⟨rfl,hb⟩
 generalize Value.agg #[.bool i0,.bool n00,.string s00,.bool n01,.string s01,.bool n02,.string s02,.bool n03,.string s03,.bool i1,.bool n10,.string s10,.bool n11,.string s11,.bool n12,.string s12,.bool n13,.string s13,.bool i2,.bool n20,.string s20,.bool n21,.string s21,.bool n22,.string s22,.bool n23,.string s23,.bool i3,.bool n30,.string s30,.bool n31,.string s31,.bool n32,.string s32,.bool n33,.string s33,.bool g00,.string t00,.bool g01,.string t01,.bool g02,.string t02,.bool g03,.string t03,.bool g10,.string t10,.bool g11,.string t11,.bool g12,.string t12,.bool g13,.string t13,.bool g20,.string t20,.bool g21,.string t21,.bool g22,.string t22,.bool g23,.string t23] = big0
 have hB0 := (HV.out.2.2.2 w1 hb).1
 have HW1 := Lib.hid hb
 clear hb HC
 go_wp2_with fail
 have hs1 : w.heap.size < w1.drew.heap.size := by have := HW1.out.size; have := HV.out.2.2.1; show w.heap.size < w1.heap.size; omega
 have HR5 : Rcv (Mo NoA (w.heap.size + 2)) w1 := rcv_more (rcv_noA _) br (HV.out.2.2.2 w1 HW1.out).2.2 (noW_plain _ rfl)
 refine wp_region_inv [(.lit,[]),(.lit,[]),(.val,[]),(.lit,[]),(.lit,[]),(.val,[]),(.lit,[]),(.lit,[]),(.val,[])]
  (pickF [(2,FactU (Mo NoA (w.heap.size + 2)) (CQ a)),(5,FactU (Mo NoA (w.heap.size + 2)) (CQ b)),(8,FactU (Mo NoA (w.heap.size + 2)) (CQ c))]) (by kernel_rfl) ?_ ?_ (by simp) (by simp) (by kernel_rfl)
 ·exact keeps_pick (by
   simp only [List.mem_cons,List.not_mem_nil,or_false]
   rintro p (rfl | rfl | rfl) <;> exact FactU.keeps (CQ.keeps _))
 refine ⟨_,fun f w2 h2 => by (go_simp; rfl),?_⟩
 simp only [Act.put,nrA,nrB,nrC,Nat.reduceAdd]
 refine ⟨_,fun f w2 h2 => exec_load_part 27 _ rfl w.heap.size 36 rfl 31 _ #[.bool g00,.string t00,.bool g01,.string t01,.bool g02,.string t02,.bool g03,.string t03] (0,0) _ ((h2.block _ hs1).trans hB0) Tryz.underlying27 rfl (by kernel_rfl) (by kernel_rfl),?_⟩
 simp only [Act.put,nrA,nrB,nrC,Nat.reduceAdd]
 refine ⟨fun f w2 A1 k1 hA hN hd K hK => by
  go_simp
  refine (HOA.out (Un (Mo NoA (w.heap.size + 2)) A1) w2 (rcv_un (HR5.below (br.drew.trans k1)) hA)).mono ?_
  rintro e w' ⟨v,rfl,hb,hr⟩
  exact hK _ _ hb hr,?_⟩
 simp only [Act.put,nrA,nrB,nrC,Nat.reduceAdd]
 refine ⟨_,fun f w2 h2 => by (go_simp; rfl),?_⟩
 simp only [Act.put,nrA,nrB,nrC,Nat.reduceAdd]
 refine ⟨_,fun f w2 h2 => exec_load_part 27 _ rfl w.heap.size 44 rfl 31 _ #[.bool g10,.string t10,.bool g11,.string t11,.bool g12,.string t12,.bool g13,.string t13] (0,0) _ ((h2.block _ hs1).trans hB0) Tryz.underlying27 rfl (by kernel_rfl) (by kernel_rfl),?_⟩
 simp only [Act.put,nrA,nrB,nrC,Nat.reduceAdd]
 refine ⟨fun f w2 A1 k1 hA hN hd K hK => by
  go_simp
  refine (HOB.out (Un (Mo NoA (w.heap.size + 2)) A1) w2 (rcv_un (HR5.below (br.drew.trans k1)) hA)).mono ?_
  rintro e w' ⟨v,rfl,hb,hr⟩
  exact hK _ _ hb hr,?_⟩
 simp only [Act.put,nrA,nrB,nrC,Nat.reduceAdd]
 refine ⟨_,fun f w2 h2 => by (go_simp; rfl),?_⟩
 simp only [Act.put,nrA,nrB,nrC,Nat.reduceAdd]
 refine ⟨_,fun f w2 h2 => exec_load_part 27 _ rfl w.heap.size 52 rfl 31 _ #[.bool g20,.string t20,.bool g21,.string t21,.bool g22,.string t22,.bool g23,.string t23] (0,0) _ ((h2.block _ hs1).trans hB0) Tryz.underlying27 rfl (by kernel_rfl) (by kernel_rfl),?_⟩
 simp only [Act.put,nrA,nrB,nrC,Nat.reduceAdd]
 refine ⟨fun f w2 A1 k1 hA hN hd K hK => by
  go_simp
  refine (HOC.out (Un (Mo NoA (w.heap.size + 2)) A1) w2 (rcv_un (HR5.below (br.drew.trans k1)) hA)).mono ?_
  rintro e w' ⟨v,rfl,hb,hr⟩
  exact hK _ _ hb hr,?_⟩
 simp only [Act.put,nrA,nrB,nrC,Nat.reduceAdd]
 intro f w2 h2 hF
 have iA := FactU.done (CQ.keeps a) (show FactU (Mo NoA (w.heap.size + 2)) (CQ a) (f 2) w2 NoA from hF.1.1.2)
 have iB := FactU.done (CQ.keeps b) (show FactU (Mo NoA (w.heap.size + 2)) (CQ b) (f 5) w2 NoA from hF.1.2)
 have iC := FactU.done (CQ.keeps c) (show FactU (Mo NoA (w.heap.size + 2)) (CQ c) (f 8) w2 NoA from hF.2)
 clear hF
 dsimp only
 obtain ⟨c16,c17,q2⟩ := cq_ptr iA
 obtain ⟨c18,c19,q5⟩ := cq_ptr iB
 obtain ⟨c20,c21,q8⟩ := cq_ptr iC
 rw [q2] at iA ⊢
 rw [q5] at iB ⊢
 rw [q8] at iC ⊢
 clear q2 q5 q8
 have hb2 : Below W.heap.size W w2 := (HW1.out.drew).trans (h2.mono HW1.out.size)
 obtain ⟨m,hm⟩ : ∃ m,m = w2.heap.size := ⟨_,rfl⟩
 obtain ⟨u0,hu0⟩ : ∃ u0,u0 = w2.alloc (.cells #[.pointer none,.pointer none,.pointer none,.pointer none,.pointer none,.pointer none,.pointer none,.pointer none,.pointer none,.pointer none,.pointer none,.pointer none,.pointer none,.pointer none,.pointer none,.pointer none,.pointer c16,.pointer c17,.pointer c18,.pointer c19,.pointer c20,.pointer c21,.pointer none,.pointer none,.pointer none,.pointer none,.pointer none,.pointer none,.pointer none,.pointer none,.pointer none,.pointer none,.pointer none,.pointer none] 89) := ⟨_,rfl⟩
 have hgm : u0.heap[m]? = some (.cells #[.pointer none,.pointer none,.pointer none,.pointer none,.pointer none,.pointer none,.pointer none,.pointer none,.pointer none,.pointer none,.pointer none,.pointer none,.pointer none,.pointer none,.pointer none,.pointer none,.pointer c16,.pointer c17,.pointer c18,.pointer c19,.pointer c20,.pointer c21,.pointer none,.pointer none,.pointer none,.pointer none,.pointer none,.pointer none,.pointer none,.pointer none,.pointer none,.pointer none,.pointer none,.pointer none] 89 (0,0)) := by rw [hu0,hm]; exact heap_alloc_new w2 _
 have hal : Below w2.heap.size w2 u0 := by rw [hu0]; exact br.alloc (Nat.le_refl _) _
 have hb3 : Below W.heap.size W u0 := hb2.trans (hal.mono hb2.size)
 have hWm : W.heap.size ≤ m := by rw [hm]; exact hb2.size
 have hmu : m < u0.heap.size := by rw [hu0,hm]; simp
 have hgb := (HV.out.2.2.2 u0 hb3).1
 have hgo := (HV.out.2.2.2 u0 hb3).2.2
 obtain ⟨A0,hA0⟩ : ∃ A0,A0 = Mo (Mo NoA (w.heap.size + 2)) m := ⟨_,rfl⟩
 have a2 : A0 (w.heap.size + 2) := by rw [hA0]; exact .inl (.inr rfl)
 have am : A0 m := by rw [hA0]; exact .inr rfl
 have hRc : Rcv A0 u0 := by
  rw [hA0]
  exact rcv_more (rcv_more (rcv_noA _) br hgo (noW_plain _ rfl)) br hgm (noW_ptrs [none,none,none,none,none,none,none,none,none,none,none,none,none,none,none,none,c16,c17,c18,c19,c20,c21,none,none,none,none,none,none,none,none,none,none,none,none] _)
 have lift : ∀ {R : Fact} {v : Value},R.Keeps → R v w2 (Mo NoA (w.heap.size + 2)) → R v u0 A0 := fun {R v} hR h => by
  rw [hA0]
  exact FactU.done hR (new_more hR hal (by rw [hm]; exact Nat.le_refl _) h)
 have iA := lift (CQ.keeps _) iA
 have iB := lift (CQ.keeps _) iB
 have iC := lift (CQ.keeps _) iC
 have HU0 := Lib.hid (And.intro hgm (And.intro hb3 (And.intro hRc (And.intro iA (And.intro iB iC)))))
 have HM := Lib.hid (And.intro hm (And.intro hWm (And.intro a2 (And.intro am hA0))))
 rw [hu0] at hgb
 clear lift iA iB iC hRc a2 am hA0 hgo hWm hb3 hal hgm h2 hb2 hB0 hs1 HR5
 go_wp2_with (first
  | (refine Go.Great.wpList_buildTo rfl 89 _ rfl (some 34) rfl #[.pointer none,.pointer none,.pointer none,.pointer none,.pointer none,.pointer none,.pointer none,.pointer none,.pointer none,.pointer none,.pointer none,.pointer none,.pointer none,.pointer none,.pointer none,.pointer none,.pointer c16,.pointer c17,.pointer c18,.pointer c19,.pointer c20,.pointer c21,.pointer none,.pointer none,.pointer none,.pointer none,.pointer none,.pointer none,.pointer none,.pointer none,.pointer none,.pointer none,.pointer none,.pointer none] (by kernel_rfl) ?_)
  | (refine Go.Great.wpList_boxTo rfl 89 _ rfl (some 35) rfl w2.heap.size rfl _ rfl ?_)
  | (refine wpList_load_part (by kernel_rfl) 29 _ rfl w.heap.size 0 rfl 31 _ #[.bool i0,.bool n00,.string s00,.bool n01,.string s01,.bool n02,.string s02,.bool n03,.string s03] (0,0) _ hgb Tryz.underlying29 rfl (by kernel_rfl) (by kernel_rfl) ?_)
  | (refine wpList_load_part (by kernel_rfl) 29 _ rfl w.heap.size 9 rfl 31 _ #[.bool i1,.bool n10,.string s10,.bool n11,.string s11,.bool n12,.string s12,.bool n13,.string s13] (0,0) _ hgb Tryz.underlying29 rfl (by kernel_rfl) (by kernel_rfl) ?_)
  | (refine wpList_load_part (by kernel_rfl) 29 _ rfl w.heap.size 18 rfl 31 _ #[.bool i2,.bool n20,.string s20,.bool n21,.string s21,.bool n22,.string s22,.bool n23,.string s23] (0,0) _ hgb Tryz.underlying29 rfl (by kernel_rfl) (by kernel_rfl) ?_)
  | (refine wpList_load_part (by kernel_rfl) 29 _ rfl w.heap.size 27 rfl 31 _ #[.bool i3,.bool n30,.string s30,.bool n31,.string s31,.bool n32,.string s32,.bool n33,.string s33] (0,0) _ hgb Tryz.underlying29 rfl (by kernel_rfl) (by kernel_rfl) ?_))
 rw [← hu0,← hm]
 clear hgb hu0 hm
 generalize Value.agg #[.pointer none,.pointer none,.pointer none,.pointer none,.pointer none,.pointer none,.pointer none,.pointer none,.pointer none,.pointer none,.pointer none,.pointer none,.pointer none,.pointer none,.pointer none,.pointer none,.pointer c16,.pointer c17,.pointer c18,.pointer c19,.pointer c20,.pointer c21,.pointer none,.pointer none,.pointer none,.pointer none,.pointer none,.pointer none,.pointer none,.pointer none,.pointer none,.pointer none,.pointer none,.pointer none] = big1
 generalize Value.agg #[.bool g00,.string t00,.bool g01,.string t01,.bool g02,.string t02,.bool g03,.string t03] = q50
 generalize Value.agg #[.bool g10,.string t10,.bool g11,.string t11,.bool g12,.string t12,.bool g13,.string t13] = q51
 generalize Value.agg #[.bool g20,.string t20,.bool g21,.string t21,.bool g22,.string t22,.bool g23,.string t23] = q52
 refine wp_loop_rounds 5 ?_
 have ix : ∀ w,(Instr.index 73 (.agg #[.bool i0,.bool n00,.string s00,.bool n01,.string s01,.bool n02,.string s02,.bool n03,.string s03,.bool i1,.bool n10,.string s10,.bool n11,.string s11,.bool n12,.string s12,.bool n13,.string s13,.bool i2,.bool n20,.string s20,.bool n21,.string s21,.bool n22,.string s22,.bool n23,.string s23,.bool i3,.bool n30,.string s30,.bool n31,.string s31,.bool n32,.string s32,.bool n33,.string s33]) (.int .i64 0)).run Tryz.prog w = .ok (.agg #[.bool i0,.bool n00,.string s00,.bool n01,.string s01,.bool n02,.string s02,.bool n03,.string s03]) w := fun _ => by kernel_rfl
 rw [rounds_succ]
 go_wp2_with fail
 clear ix
 obtain ⟨x0,hx⟩ : ∃ x,x = u0.alloc (.cells #[.bool i0,.bool n00,.string s00,.bool n01,.string s01,.bool n02,.string s02,.bool n03,.string s03] 29) := ⟨_,rfl⟩
 rw [← hx]
 have hgx : x0.heap[u0.heap.size]? = some (.cells #[.bool i0,.bool n00,.string s00,.bool n01,.string s01,.bool n02,.string s02,.bool n03,.string s03] 29 (0,0)) := by rw [hx]; exact heap_alloc_new u0 _
 have hbx : Below u0.heap.size u0 x0 := by rw [hx]; exact br.alloc (Nat.le_refl _) _
 have hsx : u0.heap.size < x0.drew.heap.size := by show _ < x0.heap.size; rw [hx]; simp
 have hmu : m < u0.heap.size := (Array.getElem?_eq_some_iff.1 HU0.out.1).1
 have hRx : Rcv A0 x0 := HU0.out.2.2.1.below hbx
 clear hx
 refine wp_region_inv [(.lit,[]),(.lit,[]),(.lit,[]),(.val,[]),(.lit,[]),(.lit,[]),(.lit,[])]
  (pickF [(3,FactU A0 (PQ (ptX p0) (ptY p0)))]) (by kernel_rfl) ?_ ?_ (by simp) (by simp) (by kernel_rfl)
 ·exact keeps_pick (by
   simp only [List.mem_cons,List.not_mem_nil,or_false]
   rintro p rfl
   exact FactU.keeps (PQ.keeps _ _))
 refine ⟨_,fun f w3 h3 => by (go_simp; rfl),?_⟩
 refine ⟨_,fun f w3 h3 => by (go_simp; rfl),?_⟩
 simp only [Act.put,nrA,nrB,nrC,Nat.reduceAdd]
 refine ⟨_,fun f w3 h3 => exec_load_part 29 _ rfl u0.heap.size 0 rfl 29 _ #[.bool i0,.bool n00,.string s00,.bool n01,.string s01,.bool n02,.string s02,.bool n03,.string s03] (0,0) _ ((h3.block _ hsx).trans hgx) Tryz.underlying29 rfl (by kernel_rfl) (by kernel_rfl),?_⟩
 simp only [Act.put,nrA,nrB,nrC,Nat.reduceAdd]
 refine ⟨fun f w3 A1 k1 hA hN hd K hK => by
  go_simp
  refine (HP0.out (Un A0 A1) w3 (rcv_un (hRx.below (br.drew.trans k1)) hA)).mono ?_
  rintro e w' ⟨v,rfl,hb,hr⟩
  exact hK _ _ hb hr,?_⟩
 simp only [Act.put,nrA,nrB,nrC,Nat.reduceAdd]
 refine ⟨_,fun f w3 h3 => by (go_simp; rfl),?_⟩
 refine ⟨_,fun f w3 h3 => by (go_simp; rfl),?_⟩
 refine ⟨_,fun f w3 h3 => by (go_simp; rfl),?_⟩
 simp only [Act.put,nrA,nrB,nrC,Nat.reduceAdd]
 intro f w3 h3 hF
 have iP := FactU.done (PQ.keeps _ _) (show FactU A0 (PQ (ptX p0) (ptY p0)) (f 3) w3 NoA from hF.2)
 clear hF
 dsimp only
 obtain ⟨c0,c1,c2,c3,q3⟩ := pq_ptr iP
 rw [q3] at iP ⊢
 clear q3
 obtain ⟨u1,hu⟩ : ∃ u,u = (((w3.setCell ⟨m,0,none⟩ (.pointer c0)).setCell ⟨m,1,none⟩ (.pointer c1)).setCell ⟨m,2,none⟩ (.pointer c2)).setCell ⟨m,3,none⟩ (.pointer c3) := ⟨_,rfl⟩
 have hbu : Below u0.heap.size u0 w3 := hbx.trans ((br.drew.trans h3).mono hbx.size)
 have hg3 : w3.heap[m]? = some (.cells #[.pointer none,.pointer none,.pointer none,.pointer none,.pointer none,.pointer none,.pointer none,.pointer none,.pointer none,.pointer none,.pointer none,.pointer none,.pointer none,.pointer none,.pointer none,.pointer none,.pointer c16,.pointer c17,.pointer c18,.pointer c19,.pointer c20,.pointer c21,.pointer none,.pointer none,.pointer none,.pointer none,.pointer none,.pointer none,.pointer none,.pointer none,.pointer none,.pointer none,.pointer none,.pointer none] 89 (0,0)) := (hbu.block m hmu).trans HU0.out.1
 have yy0 := cell_at (o := 0) hg3 rfl
 have yy1 := cell_at (o := 1) hg3 rfl
 have yy2 := cell_at (o := 2) hg3 rfl
 have yy3 := cell_at (o := 3) hg3 rfl
 have hg4 : u1.heap[m]? = some (.cells #[.pointer c0,.pointer c1,.pointer c2,.pointer c3,.pointer none,.pointer none,.pointer none,.pointer none,.pointer none,.pointer none,.pointer none,.pointer none,.pointer none,.pointer none,.pointer none,.pointer none,.pointer c16,.pointer c17,.pointer c18,.pointer c19,.pointer c20,.pointer c21,.pointer none,.pointer none,.pointer none,.pointer none,.pointer none,.pointer none,.pointer none,.pointer none,.pointer none,.pointer none,.pointer none,.pointer none] 89 (0,0)) := by rw [hu]; exact set4_part hg3 (by kernel_rfl)
 have hw4 : Below W.heap.size W u1 := by rw [hu]; exact below4 (HU0.out.2.1.trans (hbu.mono HU0.out.2.1.size)) HM.out.2.1
 have hr4 : Rcv A0 u1 := by
  rw [HM.out.2.2.2.2]
  exact rcv_more (rcv_more (rcv_noA _) br (HV.out.2.2.2 u1 hw4).2.2 (noW_plain _ rfl)) br hg4 (noW_ptrs [c0,c1,c2,c3,none,none,none,none,none,none,none,none,none,none,none,none,c16,c17,c18,c19,c20,c21,none,none,none,none,none,none,none,none,none,none,none,none] _)
 have j0 := keep4 (CQ.keeps _) (o0 := 0) (o1 := 1) (o2 := 2) (o3 := 3) (x0 := .pointer c0) (x1 := .pointer c1) (x2 := .pointer c2) (x3 := .pointer c3) HM.out.2.2.2.1 (Fact.Keeps.below (CQ.keeps _) hbu HU0.out.2.2.2.1)
 rw [← hu] at j0
 have j1 := keep4 (CQ.keeps _) (o0 := 0) (o1 := 1) (o2 := 2) (o3 := 3) (x0 := .pointer c0) (x1 := .pointer c1) (x2 := .pointer c2) (x3 := .pointer c3) HM.out.2.2.2.1 (Fact.Keeps.below (CQ.keeps _) hbu HU0.out.2.2.2.2.1)
 rw [← hu] at j1
 have j2 := keep4 (CQ.keeps _) (o0 := 0) (o1 := 1) (o2 := 2) (o3 := 3) (x0 := .pointer c0) (x1 := .pointer c1) (x2 := .pointer c2) (x3 := .pointer c3) HM.out.2.2.2.1 (Fact.Keeps.below (CQ.keeps _) hbu HU0.out.2.2.2.2.2)
 rw [← hu] at j2
 have l0 := keep4 (PQ.keeps _ _) (o0 := 0) (o1 := 1) (o2 := 2) (o3 := 3) (x0 := .pointer c0) (x1 := .pointer c1) (x2 := .pointer c2) (x3 := .pointer c3) HM.out.2.2.2.1 iP
 rw [← hu] at l0
 have HU1 := Lib.hid (And.intro hg4 (And.intro hw4 (And.intro hr4 (And.intro j0 (And.intro j1 (And.intro j2 l0))))))
 clear l0 j2 j1 j0 hr4 hw4 hg4 hbu hg3
 clear iP hbx hgx hsx hmu hRx h3 HU0 HP0
 go_wp2_with fail
 clear yy0 yy1 yy2 yy3
 rw [← hu]
 clear hu
 have ix : ∀ w,(Instr.index 73 (.agg #[.bool i0,.bool n00,.string s00,.bool n01,.string s01,.bool n02,.string s02,.bool n03,.string s03,.bool i1,.bool n10,.string s10,.bool n11,.string s11,.bool n12,.string s12,.bool n13,.string s13,.bool i2,.bool n20,.string s20,.bool n21,.string s21,.bool n22,.string s22,.bool n23,.string s23,.bool i3,.bool n30,.string s30,.bool n31,.string s31,.bool n32,.string s32,.bool n33,.string s33]) (.int .i64 1)).run Tryz.prog w = .ok (.agg #[.bool i1,.bool n10,.string s10,.bool n11,.string s11,.bool n12,.string s12,.bool n13,.string s13]) w := fun _ => by kernel_rfl
 rw [rounds_succ]
 go_wp2_with fail
 clear ix
 obtain ⟨x1,hx⟩ : ∃ x,x = u1.alloc (.cells #[.bool i1,.bool n10,.string s10,.bool n11,.string s11,.bool n12,.string s12,.bool n13,.string s13] 29) := ⟨_,rfl⟩
 rw [← hx]
 have hgx : x1.heap[u1.heap.size]? = some (.cells #[.bool i1,.bool n10,.string s10,.bool n11,.string s11,.bool n12,.string s12,.bool n13,.string s13] 29 (0,0)) := by rw [hx]; exact heap_alloc_new u1 _
 have hbx : Below u1.heap.size u1 x1 := by rw [hx]; exact br.alloc (Nat.le_refl _) _
 have hsx : u1.heap.size < x1.drew.heap.size := by show _ < x1.heap.size; rw [hx]; simp
 have hmu : m < u1.heap.size := (Array.getElem?_eq_some_iff.1 HU1.out.1).1
 have hRx : Rcv A0 x1 := HU1.out.2.2.1.below hbx
 clear hx
 refine wp_region_inv [(.lit,[]),(.lit,[]),(.lit,[]),(.val,[]),(.lit,[]),(.lit,[]),(.lit,[])]
  (pickF [(3,FactU A0 (PQ (ptX p1) (ptY p1)))]) (by kernel_rfl) ?_ ?_ (by simp) (by simp) (by kernel_rfl)
 ·exact keeps_pick (by
   simp only [List.mem_cons,List.not_mem_nil,or_false]
   rintro p rfl
   exact FactU.keeps (PQ.keeps _ _))
 refine ⟨_,fun f w3 h3 => by (go_simp; rfl),?_⟩
 refine ⟨_,fun f w3 h3 => by (go_simp; rfl),?_⟩
 simp only [Act.put,nrA,nrB,nrC,Nat.reduceAdd]
 refine ⟨_,fun f w3 h3 => exec_load_part 29 _ rfl u1.heap.size 0 rfl 29 _ #[.bool i1,.bool n10,.string s10,.bool n11,.string s11,.bool n12,.string s12,.bool n13,.string s13] (0,0) _ ((h3.block _ hsx).trans hgx) Tryz.underlying29 rfl (by kernel_rfl) (by kernel_rfl),?_⟩
 simp only [Act.put,nrA,nrB,nrC,Nat.reduceAdd]
 refine ⟨fun f w3 A1 k1 hA hN hd K hK => by
  go_simp
  refine (HP1.out (Un A0 A1) w3 (rcv_un (hRx.below (br.drew.trans k1)) hA)).mono ?_
  rintro e w' ⟨v,rfl,hb,hr⟩
  exact hK _ _ hb hr,?_⟩
 simp only [Act.put,nrA,nrB,nrC,Nat.reduceAdd]
 refine ⟨_,fun f w3 h3 => by (go_simp; rfl),?_⟩
 refine ⟨_,fun f w3 h3 => by (go_simp; rfl),?_⟩
 refine ⟨_,fun f w3 h3 => by (go_simp; rfl),?_⟩
 simp only [Act.put,nrA,nrB,nrC,Nat.reduceAdd]
 intro f w3 h3 hF
 have iP := FactU.done (PQ.keeps _ _) (show FactU A0 (PQ (ptX p1) (ptY p1)) (f 3) w3 NoA from hF.2)
 clear hF
 dsimp only
 obtain ⟨c4,c5,c6,c7,q3⟩ := pq_ptr iP
 rw [q3] at iP ⊢
 clear q3
 obtain ⟨u2,hu⟩ : ∃ u,u = (((w3.setCell ⟨m,4,none⟩ (.pointer c4)).setCell ⟨m,5,none⟩ (.pointer c5)).setCell ⟨m,6,none⟩ (.pointer c6)).setCell ⟨m,7,none⟩ (.pointer c7) := ⟨_,rfl⟩
 have hbu : Below u1.heap.size u1 w3 := hbx.trans ((br.drew.trans h3).mono hbx.size)
 have hg3 : w3.heap[m]? = some (.cells #[.pointer c0,.pointer c1,.pointer c2,.pointer c3,.pointer none,.pointer none,.pointer none,.pointer none,.pointer none,.pointer none,.pointer none,.pointer none,.pointer none,.pointer none,.pointer none,.pointer none,.pointer c16,.pointer c17,.pointer c18,.pointer c19,.pointer c20,.pointer c21,.pointer none,.pointer none,.pointer none,.pointer none,.pointer none,.pointer none,.pointer none,.pointer none,.pointer none,.pointer none,.pointer none,.pointer none] 89 (0,0)) := (hbu.block m hmu).trans HU1.out.1
 have yy0 := cell_at (o := 4) hg3 rfl
 have yy1 := cell_at (o := 5) hg3 rfl
 have yy2 := cell_at (o := 6) hg3 rfl
 have yy3 := cell_at (o := 7) hg3 rfl
 have hg4 : u2.heap[m]? = some (.cells #[.pointer c0,.pointer c1,.pointer c2,.pointer c3,.pointer c4,.pointer c5,.pointer c6,.pointer c7,.pointer none,.pointer none,.pointer none,.pointer none,.pointer none,.pointer none,.pointer none,.pointer none,.pointer c16,.pointer c17,.pointer c18,.pointer c19,.pointer c20,.pointer c21,.pointer none,.pointer none,.pointer none,.pointer none,.pointer none,.pointer none,.pointer none,.pointer none,.pointer none,.pointer none,.pointer none,.pointer none] 89 (0,0)) := by rw [hu]; exact set4_part hg3 (by kernel_rfl)
 have hw4 : Below W.heap.size W u2 := by rw [hu]; exact below4 (HU1.out.2.1.trans (hbu.mono HU1.out.2.1.size)) HM.out.2.1
 have hr4 : Rcv A0 u2 := by
  rw [HM.out.2.2.2.2]
  exact rcv_more (rcv_more (rcv_noA _) br (HV.out.2.2.2 u2 hw4).2.2 (noW_plain _ rfl)) br hg4 (noW_ptrs [c0,c1,c2,c3,c4,c5,c6,c7,none,none,none,none,none,none,none,none,c16,c17,c18,c19,c20,c21,none,none,none,none,none,none,none,none,none,none,none,none] _)
 have j0 := keep4 (CQ.keeps _) (o0 := 4) (o1 := 5) (o2 := 6) (o3 := 7) (x0 := .pointer c4) (x1 := .pointer c5) (x2 := .pointer c6) (x3 := .pointer c7) HM.out.2.2.2.1 (Fact.Keeps.below (CQ.keeps _) hbu HU1.out.2.2.2.1)
 rw [← hu] at j0
 have j1 := keep4 (CQ.keeps _) (o0 := 4) (o1 := 5) (o2 := 6) (o3 := 7) (x0 := .pointer c4) (x1 := .pointer c5) (x2 := .pointer c6) (x3 := .pointer c7) HM.out.2.2.2.1 (Fact.Keeps.below (CQ.keeps _) hbu HU1.out.2.2.2.2.1)
 rw [← hu] at j1
 have j2 := keep4 (CQ.keeps _) (o0 := 4) (o1 := 5) (o2 := 6) (o3 := 7) (x0 := .pointer c4) (x1 := .pointer c5) (x2 := .pointer c6) (x3 := .pointer c7) HM.out.2.2.2.1 (Fact.Keeps.below (CQ.keeps _) hbu HU1.out.2.2.2.2.2.1)
 rw [← hu] at j2
 have j3 := keep4 (PQ.keeps _ _) (o0 := 4) (o1 := 5) (o2 := 6) (o3 := 7) (x0 := .pointer c4) (x1 := .pointer c5) (x2 := .pointer c6) (x3 := .pointer c7) HM.out.2.2.2.1 (Fact.Keeps.below (PQ.keeps _ _) hbu HU1.out.2.2.2.2.2.2)
 rw [← hu] at j3
 have l0 := keep4 (PQ.keeps _ _) (o0 := 4) (o1 := 5) (o2 := 6) (o3 := 7) (x0 := .pointer c4) (x1 := .pointer c5) (x2 := .pointer c6) (x3 := .pointer c7) HM.out.2.2.2.1 iP
 rw [← hu] at l0
 have HU2 := Lib.hid (And.intro hg4 (And.intro hw4 (And.intro hr4 (And.intro j0 (And.intro j1 (And.intro j2 (And.intro j3 l0)))))))
 clear l0 j3 j2 j1 j0 hr4 hw4 hg4 hbu hg3
 clear iP hbx hgx hsx hmu hRx h3 HU1 HP1
 go_wp2_with fail
 clear yy0 yy1 yy2 yy3
 rw [← hu]
 clear hu
 have ix : ∀ w,(Instr.index 73 (.agg #[.bool i0,.bool n00,.string s00,.bool n01,.string s01,.bool n02,.string s02,.bool n03,.string s03,.bool i1,.bool n10,.string s10,.bool n11,.string s11,.bool n12,.string s12,.bool n13,.string s13,.bool i2,.bool n20,.string s20,.bool n21,.string s21,.bool n22,.string s22,.bool n23,.string s23,.bool i3,.bool n30,.string s30,.bool n31,.string s31,.bool n32,.string s32,.bool n33,.string s33]) (.int .i64 2)).run Tryz.prog w = .ok (.agg #[.bool i2,.bool n20,.string s20,.bool n21,.string s21,.bool n22,.string s22,.bool n23,.string s23]) w := fun _ => by kernel_rfl
 rw [rounds_succ]
 go_wp2_with fail
 clear ix
 obtain ⟨x2,hx⟩ : ∃ x,x = u2.alloc (.cells #[.bool i2,.bool n20,.string s20,.bool n21,.string s21,.bool n22,.string s22,.bool n23,.string s23] 29) := ⟨_,rfl⟩
 rw [← hx]
 have hgx : x2.heap[u2.heap.size]? = some (.cells #[.bool i2,.bool n20,.string s20,.bool n21,.string s21,.bool n22,.string s22,.bool n23,.string s23] 29 (0,0)) := by rw [hx]; exact heap_alloc_new u2 _
 have hbx : Below u2.heap.size u2 x2 := by rw [hx]; exact br.alloc (Nat.le_refl _) _
 have hsx : u2.heap.size < x2.drew.heap.size := by show _ < x2.heap.size; rw [hx]; simp
 have hmu : m < u2.heap.size := (Array.getElem?_eq_some_iff.1 HU2.out.1).1
 have hRx : Rcv A0 x2 := HU2.out.2.2.1.below hbx
 clear hx
 refine wp_region_inv [(.lit,[]),(.lit,[]),(.lit,[]),(.val,[]),(.lit,[]),(.lit,[]),(.lit,[])]
  (pickF [(3,FactU A0 (PQ (ptX p2) (ptY p2)))]) (by kernel_rfl) ?_ ?_ (by simp) (by simp) (by kernel_rfl)
 ·exact keeps_pick (by
   simp only [List.mem_cons,List.not_mem_nil,or_false]
   rintro p rfl
   exact FactU.keeps (PQ.keeps _ _))
 refine ⟨_,fun f w3 h3 => by (go_simp; rfl),?_⟩
 refine ⟨_,fun f w3 h3 => by (go_simp; rfl),?_⟩
 simp only [Act.put,nrA,nrB,nrC,Nat.reduceAdd]
 refine ⟨_,fun f w3 h3 => exec_load_part 29 _ rfl u2.heap.size 0 rfl 29 _ #[.bool i2,.bool n20,.string s20,.bool n21,.string s21,.bool n22,.string s22,.bool n23,.string s23] (0,0) _ ((h3.block _ hsx).trans hgx) Tryz.underlying29 rfl (by kernel_rfl) (by kernel_rfl),?_⟩
 simp only [Act.put,nrA,nrB,nrC,Nat.reduceAdd]
 refine ⟨fun f w3 A1 k1 hA hN hd K hK => by
  go_simp
  refine (HP2.out (Un A0 A1) w3 (rcv_un (hRx.below (br.drew.trans k1)) hA)).mono ?_
  rintro e w' ⟨v,rfl,hb,hr⟩
  exact hK _ _ hb hr,?_⟩
 simp only [Act.put,nrA,nrB,nrC,Nat.reduceAdd]
 refine ⟨_,fun f w3 h3 => by (go_simp; rfl),?_⟩
 refine ⟨_,fun f w3 h3 => by (go_simp; rfl),?_⟩
 refine ⟨_,fun f w3 h3 => by (go_simp; rfl),?_⟩
 simp only [Act.put,nrA,nrB,nrC,Nat.reduceAdd]
 intro f w3 h3 hF
 have iP := FactU.done (PQ.keeps _ _) (show FactU A0 (PQ (ptX p2) (ptY p2)) (f 3) w3 NoA from hF.2)
 clear hF
 dsimp only
 obtain ⟨c8,c9,c10,c11,q3⟩ := pq_ptr iP
 rw [q3] at iP ⊢
 clear q3
 obtain ⟨u3,hu⟩ : ∃ u,u = (((w3.setCell ⟨m,8,none⟩ (.pointer c8)).setCell ⟨m,9,none⟩ (.pointer c9)).setCell ⟨m,10,none⟩ (.pointer c10)).setCell ⟨m,11,none⟩ (.pointer c11) := ⟨_,rfl⟩
 have hbu : Below u2.heap.size u2 w3 := hbx.trans ((br.drew.trans h3).mono hbx.size)
 have hg3 : w3.heap[m]? = some (.cells #[.pointer c0,.pointer c1,.pointer c2,.pointer c3,.pointer c4,.pointer c5,.pointer c6,.pointer c7,.pointer none,.pointer none,.pointer none,.pointer none,.pointer none,.pointer none,.pointer none,.pointer none,.pointer c16,.pointer c17,.pointer c18,.pointer c19,.pointer c20,.pointer c21,.pointer none,.pointer none,.pointer none,.pointer none,.pointer none,.pointer none,.pointer none,.pointer none,.pointer none,.pointer none,.pointer none,.pointer none] 89 (0,0)) := (hbu.block m hmu).trans HU2.out.1
 have yy0 := cell_at (o := 8) hg3 rfl
 have yy1 := cell_at (o := 9) hg3 rfl
 have yy2 := cell_at (o := 10) hg3 rfl
 have yy3 := cell_at (o := 11) hg3 rfl
 have hg4 : u3.heap[m]? = some (.cells #[.pointer c0,.pointer c1,.pointer c2,.pointer c3,.pointer c4,.pointer c5,.pointer c6,.pointer c7,.pointer c8,.pointer c9,.pointer c10,.pointer c11,.pointer none,.pointer none,.pointer none,.pointer none,.pointer c16,.pointer c17,.pointer c18,.pointer c19,.pointer c20,.pointer c21,.pointer none,.pointer none,.pointer none,.pointer none,.pointer none,.pointer none,.pointer none,.pointer none,.pointer none,.pointer none,.pointer none,.pointer none] 89 (0,0)) := by rw [hu]; exact set4_part hg3 (by kernel_rfl)
 have hw4 : Below W.heap.size W u3 := by rw [hu]; exact below4 (HU2.out.2.1.trans (hbu.mono HU2.out.2.1.size)) HM.out.2.1
 have hr4 : Rcv A0 u3 := by
  rw [HM.out.2.2.2.2]
  exact rcv_more (rcv_more (rcv_noA _) br (HV.out.2.2.2 u3 hw4).2.2 (noW_plain _ rfl)) br hg4 (noW_ptrs [c0,c1,c2,c3,c4,c5,c6,c7,c8,c9,c10,c11,none,none,none,none,c16,c17,c18,c19,c20,c21,none,none,none,none,none,none,none,none,none,none,none,none] _)
 have j0 := keep4 (CQ.keeps _) (o0 := 8) (o1 := 9) (o2 := 10) (o3 := 11) (x0 := .pointer c8) (x1 := .pointer c9) (x2 := .pointer c10) (x3 := .pointer c11) HM.out.2.2.2.1 (Fact.Keeps.below (CQ.keeps _) hbu HU2.out.2.2.2.1)
 rw [← hu] at j0
 have j1 := keep4 (CQ.keeps _) (o0 := 8) (o1 := 9) (o2 := 10) (o3 := 11) (x0 := .pointer c8) (x1 := .pointer c9) (x2 := .pointer c10) (x3 := .pointer c11) HM.out.2.2.2.1 (Fact.Keeps.below (CQ.keeps _) hbu HU2.out.2.2.2.2.1)
 rw [← hu] at j1
 have j2 := keep4 (CQ.keeps _) (o0 := 8) (o1 := 9) (o2 := 10) (o3 := 11) (x0 := .pointer c8) (x1 := .pointer c9) (x2 := .pointer c10) (x3 := .pointer c11) HM.out.2.2.2.1 (Fact.Keeps.below (CQ.keeps _) hbu HU2.out.2.2.2.2.2.1)
 rw [← hu] at j2
 have j3 := keep4 (PQ.keeps _ _) (o0 := 8) (o1 := 9) (o2 := 10) (o3 := 11) (x0 := .pointer c8) (x1 := .pointer c9) (x2 := .pointer c10) (x3 := .pointer c11) HM.out.2.2.2.1 (Fact.Keeps.below (PQ.keeps _ _) hbu HU2.out.2.2.2.2.2.2.1)
 rw [← hu] at j3
 have j4 := keep4 (PQ.keeps _ _) (o0 := 8) (o1 := 9) (o2 := 10) (o3 := 11) (x0 := .pointer c8) (x1 := .pointer c9) (x2 := .pointer c10) (x3 := .pointer c11) HM.out.2.2.2.1 (Fact.Keeps.below (PQ.keeps _ _) hbu HU2.out.2.2.2.2.2.2.2)
 rw [← hu] at j4
 have l0 := keep4 (PQ.keeps _ _) (o0 := 8) (o1 := 9) (o2 := 10) (o3 := 11) (x0 := .pointer c8) (x1 := .pointer c9) (x2 := .pointer c10) (x3 := .pointer c11) HM.out.2.2.2.1 iP
 rw [← hu] at l0
 have HU3 := Lib.hid (And.intro hg4 (And.intro hw4 (And.intro hr4 (And.intro j0 (And.intro j1 (And.intro j2 (And.intro j3 (And.intro j4 l0))))))))
 clear l0 j4 j3 j2 j1 j0 hr4 hw4 hg4 hbu hg3
 clear iP hbx hgx hsx hmu hRx h3 HU2 HP2
 go_wp2_with fail
 clear yy0 yy1 yy2 yy3
 rw [← hu]
 clear hu
 have ix : ∀ w,(Instr.index 73 (.agg #[.bool i0,.bool n00,.string s00,.bool n01,.string s01,.bool n02,.string s02,.bool n03,.string s03,.bool i1,.bool n10,.string s10,.bool n11,.string s11,.bool n12,.string s12,.bool n13,.string s13,.bool i2,.bool n20,.string s20,.bool n21,.string s21,.bool n22,.string s22,.bool n23,.string s23,.bool i3,.bool n30,.string s30,.bool n31,.string s31,.bool n32,.string s32,.bool n33,.string s33]) (.int .i64 3)).run Tryz.prog w = .ok (.agg #[.bool i3,.bool n30,.string s30,.bool n31,.string s31,.bool n32,.string s32,.bool n33,.string s33]) w := fun _ => by kernel_rfl
 rw [rounds_succ]
 go_wp2_with fail
 clear ix
 obtain ⟨x3,hx⟩ : ∃ x,x = u3.alloc (.cells #[.bool i3,.bool n30,.string s30,.bool n31,.string s31,.bool n32,.string s32,.bool n33,.string s33] 29) := ⟨_,rfl⟩
 rw [← hx]
 have hgx : x3.heap[u3.heap.size]? = some (.cells #[.bool i3,.bool n30,.string s30,.bool n31,.string s31,.bool n32,.string s32,.bool n33,.string s33] 29 (0,0)) := by rw [hx]; exact heap_alloc_new u3 _
 have hbx : Below u3.heap.size u3 x3 := by rw [hx]; exact br.alloc (Nat.le_refl _) _
 have hsx : u3.heap.size < x3.drew.heap.size := by show _ < x3.heap.size; rw [hx]; simp
 have hmu : m < u3.heap.size := (Array.getElem?_eq_some_iff.1 HU3.out.1).1
 have hRx : Rcv A0 x3 := HU3.out.2.2.1.below hbx
 clear hx
 refine wp_region_inv [(.lit,[]),(.lit,[]),(.lit,[]),(.val,[]),(.lit,[]),(.lit,[]),(.lit,[])]
  (pickF [(3,FactU A0 (PQ (ptX p3) (ptY p3)))]) (by kernel_rfl) ?_ ?_ (by simp) (by simp) (by kernel_rfl)
 ·exact keeps_pick (by
   simp only [List.mem_cons,List.not_mem_nil,or_false]
   rintro p rfl
   exact FactU.keeps (PQ.keeps _ _))
 refine ⟨_,fun f w3 h3 => by (go_simp; rfl),?_⟩
 refine ⟨_,fun f w3 h3 => by (go_simp; rfl),?_⟩
 simp only [Act.put,nrA,nrB,nrC,Nat.reduceAdd]
 refine ⟨_,fun f w3 h3 => exec_load_part 29 _ rfl u3.heap.size 0 rfl 29 _ #[.bool i3,.bool n30,.string s30,.bool n31,.string s31,.bool n32,.string s32,.bool n33,.string s33] (0,0) _ ((h3.block _ hsx).trans hgx) Tryz.underlying29 rfl (by kernel_rfl) (by kernel_rfl),?_⟩
 simp only [Act.put,nrA,nrB,nrC,Nat.reduceAdd]
 refine ⟨fun f w3 A1 k1 hA hN hd K hK => by
  go_simp
  refine (HP3.out (Un A0 A1) w3 (rcv_un (hRx.below (br.drew.trans k1)) hA)).mono ?_
  rintro e w' ⟨v,rfl,hb,hr⟩
  exact hK _ _ hb hr,?_⟩
 simp only [Act.put,nrA,nrB,nrC,Nat.reduceAdd]
 refine ⟨_,fun f w3 h3 => by (go_simp; rfl),?_⟩
 refine ⟨_,fun f w3 h3 => by (go_simp; rfl),?_⟩
 refine ⟨_,fun f w3 h3 => by (go_simp; rfl),?_⟩
 simp only [Act.put,nrA,nrB,nrC,Nat.reduceAdd]
 intro f w3 h3 hF
 have iP := FactU.done (PQ.keeps _ _) (show FactU A0 (PQ (ptX p3) (ptY p3)) (f 3) w3 NoA from hF.2)
 clear hF
 dsimp only
 obtain ⟨c12,c13,c14,c15,q3⟩ := pq_ptr iP
 rw [q3] at iP ⊢
 clear q3
 obtain ⟨u4,hu⟩ : ∃ u,u = (((w3.setCell ⟨m,12,none⟩ (.pointer c12)).setCell ⟨m,13,none⟩ (.pointer c13)).setCell ⟨m,14,none⟩ (.pointer c14)).setCell ⟨m,15,none⟩ (.pointer c15) := ⟨_,rfl⟩
 have hbu : Below u3.heap.size u3 w3 := hbx.trans ((br.drew.trans h3).mono hbx.size)
 have hg3 : w3.heap[m]? = some (.cells #[.pointer c0,.pointer c1,.pointer c2,.pointer c3,.pointer c4,.pointer c5,.pointer c6,.pointer c7,.pointer c8,.pointer c9,.pointer c10,.pointer c11,.pointer none,.pointer none,.pointer none,.pointer none,.pointer c16,.pointer c17,.pointer c18,.pointer c19,.pointer c20,.pointer c21,.pointer none,.pointer none,.pointer none,.pointer none,.pointer none,.pointer none,.pointer none,.pointer none,.pointer none,.pointer none,.pointer none,.pointer none] 89 (0,0)) := (hbu.block m hmu).trans HU3.out.1
 have yy0 := cell_at (o := 12) hg3 rfl
 have yy1 := cell_at (o := 13) hg3 rfl
 have yy2 := cell_at (o := 14) hg3 rfl
 have yy3 := cell_at (o := 15) hg3 rfl
 have hg4 : u4.heap[m]? = some (.cells #[.pointer c0,.pointer c1,.pointer c2,.pointer c3,.pointer c4,.pointer c5,.pointer c6,.pointer c7,.pointer c8,.pointer c9,.pointer c10,.pointer c11,.pointer c12,.pointer c13,.pointer c14,.pointer c15,.pointer c16,.pointer c17,.pointer c18,.pointer c19,.pointer c20,.pointer c21,.pointer none,.pointer none,.pointer none,.pointer none,.pointer none,.pointer none,.pointer none,.pointer none,.pointer none,.pointer none,.pointer none,.pointer none] 89 (0,0)) := by rw [hu]; exact set4_part hg3 (by kernel_rfl)
 have hw4 : Below W.heap.size W u4 := by rw [hu]; exact below4 (HU3.out.2.1.trans (hbu.mono HU3.out.2.1.size)) HM.out.2.1
 have hr4 : Rcv A0 u4 := by
  rw [HM.out.2.2.2.2]
  exact rcv_more (rcv_more (rcv_noA _) br (HV.out.2.2.2 u4 hw4).2.2 (noW_plain _ rfl)) br hg4 (noW_ptrs [c0,c1,c2,c3,c4,c5,c6,c7,c8,c9,c10,c11,c12,c13,c14,c15,c16,c17,c18,c19,c20,c21,none,none,none,none,none,none,none,none,none,none,none,none] _)
 have j0 := keep4 (CQ.keeps _) (o0 := 12) (o1 := 13) (o2 := 14) (o3 := 15) (x0 := .pointer c12) (x1 := .pointer c13) (x2 := .pointer c14) (x3 := .pointer c15) HM.out.2.2.2.1 (Fact.Keeps.below (CQ.keeps _) hbu HU3.out.2.2.2.1)
 rw [← hu] at j0
 have j1 := keep4 (CQ.keeps _) (o0 := 12) (o1 := 13) (o2 := 14) (o3 := 15) (x0 := .pointer c12) (x1 := .pointer c13) (x2 := .pointer c14) (x3 := .pointer c15) HM.out.2.2.2.1 (Fact.Keeps.below (CQ.keeps _) hbu HU3.out.2.2.2.2.1)
 rw [← hu] at j1
 have j2 := keep4 (CQ.keeps _) (o0 := 12) (o1 := 13) (o2 := 14) (o3 := 15) (x0 := .pointer c12) (x1 := .pointer c13) (x2 := .pointer c14) (x3 := .pointer c15) HM.out.2.2.2.1 (Fact.Keeps.below (CQ.keeps _) hbu HU3.out.2.2.2.2.2.1)
 rw [← hu] at j2
 have j3 := keep4 (PQ.keeps _ _) (o0 := 12) (o1 := 13) (o2 := 14) (o3 := 15) (x0 := .pointer c12) (x1 := .pointer c13) (x2 := .pointer c14) (x3 := .pointer c15) HM.out.2.2.2.1 (Fact.Keeps.below (PQ.keeps _ _) hbu HU3.out.2.2.2.2.2.2.1)
 rw [← hu] at j3
 have j4 := keep4 (PQ.keeps _ _) (o0 := 12) (o1 := 13) (o2 := 14) (o3 := 15) (x0 := .pointer c12) (x1 := .pointer c13) (x2 := .pointer c14) (x3 := .pointer c15) HM.out.2.2.2.1 (Fact.Keeps.below (PQ.keeps _ _) hbu HU3.out.2.2.2.2.2.2.2.1)
 rw [← hu] at j4
 have j5 := keep4 (PQ.keeps _ _) (o0 := 12) (o1 := 13) (o2 := 14) (o3 := 15) (x0 := .pointer c12) (x1 := .pointer c13) (x2 := .pointer c14) (x3 := .pointer c15) HM.out.2.2.2.1 (Fact.Keeps.below (PQ.keeps _ _) hbu HU3.out.2.2.2.2.2.2.2.2)
 rw [← hu] at j5
 have l0 := keep4 (PQ.keeps _ _) (o0 := 12) (o1 := 13) (o2 := 14) (o3 := 15) (x0 := .pointer c12) (x1 := .pointer c13) (x2 := .pointer c14) (x3 := .pointer c15) HM.out.2.2.2.1 iP
 rw [← hu] at l0
 have HU4 := Lib.hid (And.intro hg4 (And.intro hw4 (And.intro hr4 (And.intro j0 (And.intro j1 (And.intro j2 (And.intro j3 (And.intro j4 (And.intro j5 l0)))))))))
 clear l0 j5 j4 j3 j2 j1 j0 hr4 hw4 hg4 hbu hg3
 clear iP hbx hgx hsx hmu hRx h3 HU3 HP3
 go_wp2_with fail
 clear yy0 yy1 yy2 yy3
 rw [← hu]
 clear hu
 rw [rounds_succ]
 go_wp2_with fail
 generalize Value.agg #[.bool i0,.bool n00,.string s00,.bool n01,.string s01,.bool n02,.string s02,.bool n03,.string s03] = q60
 generalize Value.agg #[.bool i1,.bool n10,.string s10,.bool n11,.string s11,.bool n12,.string s12,.bool n13,.string s13] = q61
 generalize Value.agg #[.bool i2,.bool n20,.string s20,.bool n21,.string s21,.bool n22,.string s22,.bool n23,.string s23] = q62
 generalize Value.agg #[.bool i3,.bool n30,.string s30,.bool n31,.string s31,.bool n32,.string s32,.bool n33,.string s33] = q63
 generalize Value.agg #[.bool i0,.bool n00,.string s00,.bool n01,.string s01,.bool n02,.string s02,.bool n03,.string s03,.bool i1,.bool n10,.string s10,.bool n11,.string s11,.bool n12,.string s12,.bool n13,.string s13,.bool i2,.bool n20,.string s20,.bool n21,.string s21,.bool n22,.string s22,.bool n23,.string s23,.bool i3,.bool n30,.string s30,.bool n31,.string s31,.bool n32,.string s32,.bool n33,.string s33] = big2
 have HL := Lib.hid (And.intro (ZL_ptX HS.out.1) (And.intro (ZL_ptX HS.out.2.1) (And.intro (ZL_ptX HS.out.2.2.1) (And.intro (ZL_ptX HS.out.2.2.2.1) (And.intro (ZL_ptY p0) (And.intro (ZL_ptY p1) (And.intro (ZL_ptY p2) (And.intro (ZL_ptY p3) (And.intro (ZL_short HS.out.2.2.2.2.1) (And.intro (ZL_short HS.out.2.2.2.2.2.1) (ZL_short HS.out.2.2.2.2.2.2)))))))))))
 have HZ := Lib.hid (And.intro (ZL_cX HS.out.1 HS.out.2.1 HS.out.2.2.1 HS.out.2.2.2.2.1 HS.out.2.2.2.2.2.1) (And.intro (ZL_cY HS.out.1 HS.out.2.1 HS.out.2.2.1 HS.out.2.2.2.2.1 HS.out.2.2.2.2.2.1) (And.intro (ZL_cX HS.out.1 HS.out.2.1 HS.out.2.2.2.1 HS.out.2.2.2.2.1 HS.out.2.2.2.2.2.2) (And.intro (ZL_cY HS.out.1 HS.out.2.1 HS.out.2.2.2.1 HS.out.2.2.2.2.1 HS.out.2.2.2.2.2.2) (And.intro (ZL_cX HS.out.1 HS.out.2.2.1 HS.out.2.2.2.1 HS.out.2.2.2.2.2.1 HS.out.2.2.2.2.2.2) (ZL_cY HS.out.1 HS.out.2.2.1 HS.out.2.2.2.1 HS.out.2.2.2.2.2.1 HS.out.2.2.2.2.2.2))))))
 obtain ⟨kk0,hk0⟩ : ∃ k,k = lastC (ptX p0) (ptY p0) (ptX p1) (ptY p1) (ptX p2) (ptY p2) := ⟨_,rfl⟩
 have HK0 := Lib.hid hk0
 clear hk0
 have hg : u4.drew.heap[m]? = some (.cells #[.pointer c0,.pointer c1,.pointer c2,.pointer c3,.pointer c4,.pointer c5,.pointer c6,.pointer c7,.pointer c8,.pointer c9,.pointer c10,.pointer c11,.pointer c12,.pointer c13,.pointer c14,.pointer c15,.pointer c16,.pointer c17,.pointer c18,.pointer c19,.pointer c20,.pointer c21,.pointer none,.pointer none,.pointer none,.pointer none,.pointer none,.pointer none,.pointer none,.pointer none,.pointer none,.pointer none,.pointer none,.pointer none] 89 (0,0)) := HU4.out.1
 have hmu : m < u4.drew.heap.size := (Array.getElem?_eq_some_iff.1 HU4.out.1).1
 have hRx : Rcv A0 u4 := HU4.out.2.2.1
 refine wp_region_swap 27 30 _ (by simp only [withEdge,edged]; rfl) [(.lit,[]),(.lit,[]),(.lit,[]),(.lit,[]),(.lit,[]),(.lit,[]),(.lit,[]),(.lit,[]),(.lit,[]),(.lit,[]),(.lit,[]),(.lit,[]),(.lit,[]),(.lit,[]),(.lit,[]),(.lit,[]),(.lit,[]),(.lit,[]),(.lit,[]),(.lit,[]),(.lit,[]),(.lit,[]),(.lit,[]),(.lit,[]),(.val,[]),(.val,[24]),(.val,[25]),(.val,[25]),(.lit,[]),(.lit,[])]
  (pickF [(24,FactU A0 (Tup (PZ (badP p0 p1 p2) (cX p0 p1 p2 a b) (cY p0 p1 p2 a b)) kk0)),(25,FactU A0 (Tup (PZ (badP p0 p1 p2) (cX p0 p1 p2 a b) (cY p0 p1 p2 a b)) kk0)),(26,FactU A0 (PZ (badP p0 p1 p2) (cX p0 p1 p2 a b) (cY p0 p1 p2 a b))),(27,fun v _ _ => v = .int .i64 kk0)]) (by kernel_rfl) (by kernel_rfl) ?_ ?_ (by simp) (by simp) (by kernel_rfl)
 ·exact keeps_pick (by
   simp only [List.mem_cons,List.not_mem_nil,or_false]
   rintro p (rfl | rfl | rfl | rfl)
   ·exact FactU.keeps (Tup.keeps (PZ.keeps _ _ _) _)
   ·exact FactU.keeps (Tup.keeps (PZ.keeps _ _ _) _)
   ·exact FactU.keeps (PZ.keeps _ _ _)
   ·exact keeps_pure _)
 refine ⟨_,fun f w3 h3 => by (go_simp; rfl),?_⟩
 refine ⟨_,fun f w3 h3 => by (go_simp; rfl),?_⟩
 refine ⟨_,fun f w3 h3 => by (go_simp; rfl),?_⟩
 refine ⟨_,fun f w3 h3 => by (go_simp; rfl),?_⟩
 refine ⟨_,fun f w3 h3 => by (go_simp; rfl),?_⟩
 simp only [Act.put,nrA,nrB,nrC,Nat.reduceAdd]
 refine ⟨_,fun f w3 h3 => exec_load_part 86 _ rfl m 0 rfl 89 _ #[.pointer c0,.pointer c1,.pointer c2,.pointer c3] (0,0) _ ((h3.block m hmu).trans hg) Tryz.underlying86 rfl (by kernel_rfl) (by kernel_rfl),?_⟩
 simp only [Act.put,nrA,nrB,nrC,Nat.reduceAdd]
 refine ⟨_,fun f w3 h3 => by (go_simp; rfl),?_⟩
 refine ⟨_,fun f w3 h3 => by (go_simp; rfl),?_⟩
 refine ⟨_,fun f w3 h3 => by (go_simp; rfl),?_⟩
 refine ⟨_,fun f w3 h3 => by (go_simp; rfl),?_⟩
 simp only [Act.put,nrA,nrB,nrC,Nat.reduceAdd]
 refine ⟨_,fun f w3 h3 => exec_load_part 86 _ rfl m 4 rfl 89 _ #[.pointer c4,.pointer c5,.pointer c6,.pointer c7] (0,0) _ ((h3.block m hmu).trans hg) Tryz.underlying86 rfl (by kernel_rfl) (by kernel_rfl),?_⟩
 simp only [Act.put,nrA,nrB,nrC,Nat.reduceAdd]
 refine ⟨_,fun f w3 h3 => by (go_simp; rfl),?_⟩
 refine ⟨_,fun f w3 h3 => by (go_simp; rfl),?_⟩
 refine ⟨_,fun f w3 h3 => by (go_simp; rfl),?_⟩
 refine ⟨_,fun f w3 h3 => by (go_simp; rfl),?_⟩
 simp only [Act.put,nrA,nrB,nrC,Nat.reduceAdd]
 refine ⟨_,fun f w3 h3 => exec_load_part 86 _ rfl m 8 rfl 89 _ #[.pointer c8,.pointer c9,.pointer c10,.pointer c11] (0,0) _ ((h3.block m hmu).trans hg) Tryz.underlying86 rfl (by kernel_rfl) (by kernel_rfl),?_⟩
 simp only [Act.put,nrA,nrB,nrC,Nat.reduceAdd]
 refine ⟨_,fun f w3 h3 => by (go_simp; rfl),?_⟩
 refine ⟨_,fun f w3 h3 => by (go_simp; rfl),?_⟩
 refine ⟨_,fun f w3 h3 => by (go_simp; rfl),?_⟩
 simp only [Act.put,nrA,nrB,nrC,Nat.reduceAdd]
 refine ⟨_,fun f w3 h3 => exec_load_part 83 _ rfl m 16 rfl 89 _ #[.pointer c16,.pointer c17] (0,0) _ ((h3.block m hmu).trans hg) Tryz.underlying83 rfl (by kernel_rfl) (by kernel_rfl),?_⟩
 simp only [Act.put,nrA,nrB,nrC,Nat.reduceAdd]
 refine ⟨_,fun f w3 h3 => by (go_simp; rfl),?_⟩
 refine ⟨_,fun f w3 h3 => by (go_simp; rfl),?_⟩
 refine ⟨_,fun f w3 h3 => by (go_simp; rfl),?_⟩
 simp only [Act.put,nrA,nrB,nrC,Nat.reduceAdd]
 refine ⟨_,fun f w3 h3 => exec_load_part 83 _ rfl m 18 rfl 89 _ #[.pointer c18,.pointer c19] (0,0) _ ((h3.block m hmu).trans hg) Tryz.underlying83 rfl (by kernel_rfl) (by kernel_rfl),?_⟩
 simp only [Act.put,nrA,nrB,nrC,Nat.reduceAdd]
 refine ⟨fun f w3 A1 k1 hA hN hd K hK => by
  go_simp
  refine (last_any _ _ _ _ _ _ a b _ _ _ _ _ (Un A0 A1) w3 (rcv_un (hRx.below (br.drew.trans k1)) hA) (later (FactU.keeps (PQ.keeps _ _)) (FactU.start (PQ.keeps _ _) HU4.out.2.2.2.2.2.2.1) k1 hN) (later (FactU.keeps (PQ.keeps _ _)) (FactU.start (PQ.keeps _ _) HU4.out.2.2.2.2.2.2.2.1) k1 hN) (later (FactU.keeps (PQ.keeps _ _)) (FactU.start (PQ.keeps _ _) HU4.out.2.2.2.2.2.2.2.2.1) k1 hN) (later (FactU.keeps (CQ.keeps _)) (FactU.start (CQ.keeps _) HU4.out.2.2.2.1) k1 hN) (later (FactU.keeps (CQ.keeps _)) (FactU.start (CQ.keeps _) HU4.out.2.2.2.2.1) k1 hN) 1024 (by decide) HL.out.1 HL.out.2.2.2.2.1 HL.out.2.1 HL.out.2.2.2.2.2.1 HL.out.2.2.1 HL.out.2.2.2.2.2.2.1 HL.out.2.2.2.2.2.2.2.2.1 HL.out.2.2.2.2.2.2.2.2.2.1).mono ?_
  rintro e w' ⟨v,rfl,hb,hr⟩
  exact hK _ _ hb (by rw [HK0.out]; exact hr),?_⟩
 simp only [Act.put,nrA,nrB,nrC,Nat.reduceAdd]
 refine ⟨fun f w3 A1 k1 hA hN hd K hK => by
  have i := hd 24 (by simp)
  go_simp
  exact hK _ _ br i,?_⟩
 simp only [Act.put,nrA,nrB,nrC,Nat.reduceAdd]
 refine ⟨fun f w3 A1 k1 hA hN hd K hK => by
  obtain ⟨u,e,hu⟩ : Tup (PZ (badP p0 p1 p2) (cX p0 p1 p2 a b) (cY p0 p1 p2 a b)) kk0 (f 25) w3 (Un A0 A1) := hd 25 (by simp)
  simp only [e] at hK ⊢
  go_simp
  exact hK _ _ br hu,?_⟩
 simp only [Act.put,nrA,nrB,nrC,Nat.reduceAdd]
 refine ⟨fun f w3 A1 k1 hA hN hd K hK => by
  obtain ⟨u,e,hu⟩ : Tup (PZ (badP p0 p1 p2) (cX p0 p1 p2 a b) (cY p0 p1 p2 a b)) kk0 (f 25) w3 (Un A0 A1) := hd 25 (by simp)
  simp only [e] at hK ⊢
  go_simp
  exact hK _ _ br rfl,?_⟩
 simp only [Act.put,nrA,nrB,nrC,Nat.reduceAdd]
 refine ⟨_,fun f w3 h3 => by (go_simp; rfl),?_⟩
 refine ⟨_,fun f w3 h3 => by (go_simp; rfl),?_⟩
 simp only [Act.put,nrA,nrB,nrC,Nat.reduceAdd]
 intro f w3 A1 h3 hA1 hfr hap hF
 have iC : f 27 = .int .i64 kk0 := hF.2
 have iP := FactU.done (PZ.keeps _ _ _) (Fact.Keeps.noA (FactU.keeps (PZ.keeps _ _ _)) (show FactU A0 (PZ (badP p0 p1 p2) (cX p0 p1 p2 a b) (cY p0 p1 p2 a b)) (f 26) w3 A1 from hF.1.2))
 clear hF hap hA1 hfr
 dsimp only
 obtain ⟨c22,c23,c24,c25,q26⟩ := pz_agg iP
 rw [iC,q26]
 rw [q26] at iP
 generalize f 24 = z24
 generalize f 25 = z25
 clear q26 iC
 obtain ⟨u5,hu⟩ : ∃ u,u = (((w3.setCell ⟨m,22,none⟩ (.pointer c22)).setCell ⟨m,23,none⟩ (.pointer c23)).setCell ⟨m,24,none⟩ (.pointer c24)).setCell ⟨m,25,none⟩ (.pointer c25) := ⟨_,rfl⟩
 have hbu : Below u4.heap.size u4 w3 := br.drew.trans h3
 have hg3 : w3.heap[m]? = some (.cells #[.pointer c0,.pointer c1,.pointer c2,.pointer c3,.pointer c4,.pointer c5,.pointer c6,.pointer c7,.pointer c8,.pointer c9,.pointer c10,.pointer c11,.pointer c12,.pointer c13,.pointer c14,.pointer c15,.pointer c16,.pointer c17,.pointer c18,.pointer c19,.pointer c20,.pointer c21,.pointer none,.pointer none,.pointer none,.pointer none,.pointer none,.pointer none,.pointer none,.pointer none,.pointer none,.pointer none,.pointer none,.pointer none] 89 (0,0)) := (hbu.block m hmu).trans HU4.out.1
 have yy0 := cell_at (o := 22) hg3 rfl
 have yy1 := cell_at (o := 23) hg3 rfl
 have yy2 := cell_at (o := 24) hg3 rfl
 have yy3 := cell_at (o := 25) hg3 rfl
 have hg4 : u5.heap[m]? = some (.cells #[.pointer c0,.pointer c1,.pointer c2,.pointer c3,.pointer c4,.pointer c5,.pointer c6,.pointer c7,.pointer c8,.pointer c9,.pointer c10,.pointer c11,.pointer c12,.pointer c13,.pointer c14,.pointer c15,.pointer c16,.pointer c17,.pointer c18,.pointer c19,.pointer c20,.pointer c21,.pointer c22,.pointer c23,.pointer c24,.pointer c25,.pointer none,.pointer none,.pointer none,.pointer none,.pointer none,.pointer none,.pointer none,.pointer none] 89 (0,0)) := by rw [hu]; exact set4_part hg3 (by kernel_rfl)
 have hw4 : Below W.heap.size W u5 := by rw [hu]; exact below4 (HU4.out.2.1.trans (hbu.mono HU4.out.2.1.size)) HM.out.2.1
 have hr4 : Rcv A0 u5 := by
  rw [HM.out.2.2.2.2]
  exact rcv_more (rcv_more (rcv_noA _) br (HV.out.2.2.2 u5 hw4).2.2 (noW_plain _ rfl)) br hg4 (noW_ptrs [c0,c1,c2,c3,c4,c5,c6,c7,c8,c9,c10,c11,c12,c13,c14,c15,c16,c17,c18,c19,c20,c21,c22,c23,c24,c25,none,none,none,none,none,none,none,none] _)
 have j0 := keep4 (CQ.keeps _) (o0 := 22) (o1 := 23) (o2 := 24) (o3 := 25) (x0 := .pointer c22) (x1 := .pointer c23) (x2 := .pointer c24) (x3 := .pointer c25) HM.out.2.2.2.1 (Fact.Keeps.below (CQ.keeps _) hbu HU4.out.2.2.2.1)
 rw [← hu] at j0
 have j1 := keep4 (CQ.keeps _) (o0 := 22) (o1 := 23) (o2 := 24) (o3 := 25) (x0 := .pointer c22) (x1 := .pointer c23) (x2 := .pointer c24) (x3 := .pointer c25) HM.out.2.2.2.1 (Fact.Keeps.below (CQ.keeps _) hbu HU4.out.2.2.2.2.1)
 rw [← hu] at j1
 have j2 := keep4 (CQ.keeps _) (o0 := 22) (o1 := 23) (o2 := 24) (o3 := 25) (x0 := .pointer c22) (x1 := .pointer c23) (x2 := .pointer c24) (x3 := .pointer c25) HM.out.2.2.2.1 (Fact.Keeps.below (CQ.keeps _) hbu HU4.out.2.2.2.2.2.1)
 rw [← hu] at j2
 have j3 := keep4 (PQ.keeps _ _) (o0 := 22) (o1 := 23) (o2 := 24) (o3 := 25) (x0 := .pointer c22) (x1 := .pointer c23) (x2 := .pointer c24) (x3 := .pointer c25) HM.out.2.2.2.1 (Fact.Keeps.below (PQ.keeps _ _) hbu HU4.out.2.2.2.2.2.2.1)
 rw [← hu] at j3
 have j4 := keep4 (PQ.keeps _ _) (o0 := 22) (o1 := 23) (o2 := 24) (o3 := 25) (x0 := .pointer c22) (x1 := .pointer c23) (x2 := .pointer c24) (x3 := .pointer c25) HM.out.2.2.2.1 (Fact.Keeps.below (PQ.keeps _ _) hbu HU4.out.2.2.2.2.2.2.2.1)
 rw [← hu] at j4
 have j5 := keep4 (PQ.keeps _ _) (o0 := 22) (o1 := 23) (o2 := 24) (o3 := 25) (x0 := .pointer c22) (x1 := .pointer c23) (x2 := .pointer c24) (x3 := .pointer c25) HM.out.2.2.2.1 (Fact.Keeps.below (PQ.keeps _ _) hbu HU4.out.2.2.2.2.2.2.2.2.1)
 rw [← hu] at j5
 have j6 := keep4 (PQ.keeps _ _) (o0 := 22) (o1 := 23) (o2 := 24) (o3 := 25) (x0 := .pointer c22) (x1 := .pointer c23) (x2 := .pointer c24) (x3 := .pointer c25) HM.out.2.2.2.1 (Fact.Keeps.below (PQ.keeps _ _) hbu HU4.out.2.2.2.2.2.2.2.2.2)
 rw [← hu] at j6
 have l0 := keep4 (PZ.keeps _ _ _) (o0 := 22) (o1 := 23) (o2 := 24) (o3 := 25) (x0 := .pointer c22) (x1 := .pointer c23) (x2 := .pointer c24) (x3 := .pointer c25) HM.out.2.2.2.1 iP
 rw [← hu] at l0
 have HU5 := Lib.hid (And.intro hg4 (And.intro hw4 (And.intro hr4 (And.intro j0 (And.intro j1 (And.intro j2 (And.intro j3 (And.intro j4 (And.intro j5 (And.intro j6 l0))))))))))
 clear l0 j6 j5 j4 j3 j2 j1 j0 hr4 hw4 hg4 hbu hg3
 clear iP hg hmu hRx h3 HU4
 go_wp2_with fail
 clear yy0 yy1 yy2 yy3
 rw [← hu]
 clear hu
 refine onlyN_normal ?_
 go_wp2_with fail
 obtain ⟨kk1,hk1⟩ : ∃ k,k = lastC (ptX p0) (ptY p0) (ptX p1) (ptY p1) (ptX p3) (ptY p3) := ⟨_,rfl⟩
 have HK1 := Lib.hid hk1
 clear hk1
 have hg : u5.drew.heap[m]? = some (.cells #[.pointer c0,.pointer c1,.pointer c2,.pointer c3,.pointer c4,.pointer c5,.pointer c6,.pointer c7,.pointer c8,.pointer c9,.pointer c10,.pointer c11,.pointer c12,.pointer c13,.pointer c14,.pointer c15,.pointer c16,.pointer c17,.pointer c18,.pointer c19,.pointer c20,.pointer c21,.pointer c22,.pointer c23,.pointer c24,.pointer c25,.pointer none,.pointer none,.pointer none,.pointer none,.pointer none,.pointer none,.pointer none,.pointer none] 89 (0,0)) := HU5.out.1
 have hmu : m < u5.drew.heap.size := (Array.getElem?_eq_some_iff.1 HU5.out.1).1
 have hRx : Rcv A0 u5 := HU5.out.2.2.1
 refine wp_region_swap 27 30 _ (by simp only [withEdge,edged]; rfl) [(.lit,[]),(.lit,[]),(.lit,[]),(.lit,[]),(.lit,[]),(.lit,[]),(.lit,[]),(.lit,[]),(.lit,[]),(.lit,[]),(.lit,[]),(.lit,[]),(.lit,[]),(.lit,[]),(.lit,[]),(.lit,[]),(.lit,[]),(.lit,[]),(.lit,[]),(.lit,[]),(.lit,[]),(.lit,[]),(.lit,[]),(.lit,[]),(.val,[]),(.val,[24]),(.val,[25]),(.val,[25]),(.lit,[]),(.lit,[])]
  (pickF [(24,FactU A0 (Tup (PZ (badP p0 p1 p3) (cX p0 p1 p3 a c) (cY p0 p1 p3 a c)) kk1)),(25,FactU A0 (Tup (PZ (badP p0 p1 p3) (cX p0 p1 p3 a c) (cY p0 p1 p3 a c)) kk1)),(26,FactU A0 (PZ (badP p0 p1 p3) (cX p0 p1 p3 a c) (cY p0 p1 p3 a c))),(27,fun v _ _ => v = .int .i64 kk1)]) (by kernel_rfl) (by kernel_rfl) ?_ ?_ (by simp) (by simp) (by kernel_rfl)
 ·exact keeps_pick (by
   simp only [List.mem_cons,List.not_mem_nil,or_false]
   rintro p (rfl | rfl | rfl | rfl)
   ·exact FactU.keeps (Tup.keeps (PZ.keeps _ _ _) _)
   ·exact FactU.keeps (Tup.keeps (PZ.keeps _ _ _) _)
   ·exact FactU.keeps (PZ.keeps _ _ _)
   ·exact keeps_pure _)
 refine ⟨_,fun f w3 h3 => by (go_simp; rfl),?_⟩
 refine ⟨_,fun f w3 h3 => by (go_simp; rfl),?_⟩
 refine ⟨_,fun f w3 h3 => by (go_simp; rfl),?_⟩
 refine ⟨_,fun f w3 h3 => by (go_simp; rfl),?_⟩
 refine ⟨_,fun f w3 h3 => by (go_simp; rfl),?_⟩
 simp only [Act.put,nrA,nrB,nrC,Nat.reduceAdd]
 refine ⟨_,fun f w3 h3 => exec_load_part 86 _ rfl m 0 rfl 89 _ #[.pointer c0,.pointer c1,.pointer c2,.pointer c3] (0,0) _ ((h3.block m hmu).trans hg) Tryz.underlying86 rfl (by kernel_rfl) (by kernel_rfl),?_⟩
 simp only [Act.put,nrA,nrB,nrC,Nat.reduceAdd]
 refine ⟨_,fun f w3 h3 => by (go_simp; rfl),?_⟩
 refine ⟨_,fun f w3 h3 => by (go_simp; rfl),?_⟩
 refine ⟨_,fun f w3 h3 => by (go_simp; rfl),?_⟩
 refine ⟨_,fun f w3 h3 => by (go_simp; rfl),?_⟩
 simp only [Act.put,nrA,nrB,nrC,Nat.reduceAdd]
 refine ⟨_,fun f w3 h3 => exec_load_part 86 _ rfl m 4 rfl 89 _ #[.pointer c4,.pointer c5,.pointer c6,.pointer c7] (0,0) _ ((h3.block m hmu).trans hg) Tryz.underlying86 rfl (by kernel_rfl) (by kernel_rfl),?_⟩
 simp only [Act.put,nrA,nrB,nrC,Nat.reduceAdd]
 refine ⟨_,fun f w3 h3 => by (go_simp; rfl),?_⟩
 refine ⟨_,fun f w3 h3 => by (go_simp; rfl),?_⟩
 refine ⟨_,fun f w3 h3 => by (go_simp; rfl),?_⟩
 refine ⟨_,fun f w3 h3 => by (go_simp; rfl),?_⟩
 simp only [Act.put,nrA,nrB,nrC,Nat.reduceAdd]
 refine ⟨_,fun f w3 h3 => exec_load_part 86 _ rfl m 12 rfl 89 _ #[.pointer c12,.pointer c13,.pointer c14,.pointer c15] (0,0) _ ((h3.block m hmu).trans hg) Tryz.underlying86 rfl (by kernel_rfl) (by kernel_rfl),?_⟩
 simp only [Act.put,nrA,nrB,nrC,Nat.reduceAdd]
 refine ⟨_,fun f w3 h3 => by (go_simp; rfl),?_⟩
 refine ⟨_,fun f w3 h3 => by (go_simp; rfl),?_⟩
 refine ⟨_,fun f w3 h3 => by (go_simp; rfl),?_⟩
 simp only [Act.put,nrA,nrB,nrC,Nat.reduceAdd]
 refine ⟨_,fun f w3 h3 => exec_load_part 83 _ rfl m 16 rfl 89 _ #[.pointer c16,.pointer c17] (0,0) _ ((h3.block m hmu).trans hg) Tryz.underlying83 rfl (by kernel_rfl) (by kernel_rfl),?_⟩
 simp only [Act.put,nrA,nrB,nrC,Nat.reduceAdd]
 refine ⟨_,fun f w3 h3 => by (go_simp; rfl),?_⟩
 refine ⟨_,fun f w3 h3 => by (go_simp; rfl),?_⟩
 refine ⟨_,fun f w3 h3 => by (go_simp; rfl),?_⟩
 simp only [Act.put,nrA,nrB,nrC,Nat.reduceAdd]
 refine ⟨_,fun f w3 h3 => exec_load_part 83 _ rfl m 20 rfl 89 _ #[.pointer c20,.pointer c21] (0,0) _ ((h3.block m hmu).trans hg) Tryz.underlying83 rfl (by kernel_rfl) (by kernel_rfl),?_⟩
 simp only [Act.put,nrA,nrB,nrC,Nat.reduceAdd]
 refine ⟨fun f w3 A1 k1 hA hN hd K hK => by
  go_simp
  refine (last_any _ _ _ _ _ _ a c _ _ _ _ _ (Un A0 A1) w3 (rcv_un (hRx.below (br.drew.trans k1)) hA) (later (FactU.keeps (PQ.keeps _ _)) (FactU.start (PQ.keeps _ _) HU5.out.2.2.2.2.2.2.1) k1 hN) (later (FactU.keeps (PQ.keeps _ _)) (FactU.start (PQ.keeps _ _) HU5.out.2.2.2.2.2.2.2.1) k1 hN) (later (FactU.keeps (PQ.keeps _ _)) (FactU.start (PQ.keeps _ _) HU5.out.2.2.2.2.2.2.2.2.2.1) k1 hN) (later (FactU.keeps (CQ.keeps _)) (FactU.start (CQ.keeps _) HU5.out.2.2.2.1) k1 hN) (later (FactU.keeps (CQ.keeps _)) (FactU.start (CQ.keeps _) HU5.out.2.2.2.2.2.1) k1 hN) 1024 (by decide) HL.out.1 HL.out.2.2.2.2.1 HL.out.2.1 HL.out.2.2.2.2.2.1 HL.out.2.2.2.1 HL.out.2.2.2.2.2.2.2.1 HL.out.2.2.2.2.2.2.2.2.1 HL.out.2.2.2.2.2.2.2.2.2.2).mono ?_
  rintro e w' ⟨v,rfl,hb,hr⟩
  exact hK _ _ hb (by rw [HK1.out]; exact hr),?_⟩
 simp only [Act.put,nrA,nrB,nrC,Nat.reduceAdd]
 refine ⟨fun f w3 A1 k1 hA hN hd K hK => by
  have i := hd 24 (by simp)
  go_simp
  exact hK _ _ br i,?_⟩
 simp only [Act.put,nrA,nrB,nrC,Nat.reduceAdd]
 refine ⟨fun f w3 A1 k1 hA hN hd K hK => by
  obtain ⟨u,e,hu⟩ : Tup (PZ (badP p0 p1 p3) (cX p0 p1 p3 a c) (cY p0 p1 p3 a c)) kk1 (f 25) w3 (Un A0 A1) := hd 25 (by simp)
  simp only [e] at hK ⊢
  go_simp
  exact hK _ _ br hu,?_⟩
 simp only [Act.put,nrA,nrB,nrC,Nat.reduceAdd]
 refine ⟨fun f w3 A1 k1 hA hN hd K hK => by
  obtain ⟨u,e,hu⟩ : Tup (PZ (badP p0 p1 p3) (cX p0 p1 p3 a c) (cY p0 p1 p3 a c)) kk1 (f 25) w3 (Un A0 A1) := hd 25 (by simp)
  simp only [e] at hK ⊢
  go_simp
  exact hK _ _ br rfl,?_⟩
 simp only [Act.put,nrA,nrB,nrC,Nat.reduceAdd]
 refine ⟨_,fun f w3 h3 => by (go_simp; rfl),?_⟩
 refine ⟨_,fun f w3 h3 => by (go_simp; rfl),?_⟩
 simp only [Act.put,nrA,nrB,nrC,Nat.reduceAdd]
 intro f w3 A1 h3 hA1 hfr hap hF
 have iC : f 27 = .int .i64 kk1 := hF.2
 have iP := FactU.done (PZ.keeps _ _ _) (Fact.Keeps.noA (FactU.keeps (PZ.keeps _ _ _)) (show FactU A0 (PZ (badP p0 p1 p3) (cX p0 p1 p3 a c) (cY p0 p1 p3 a c)) (f 26) w3 A1 from hF.1.2))
 clear hF hap hA1 hfr
 dsimp only
 obtain ⟨c26,c27,c28,c29,q26⟩ := pz_agg iP
 rw [iC,q26]
 rw [q26] at iP
 generalize f 24 = z24
 generalize f 25 = z25
 clear q26 iC
 obtain ⟨u6,hu⟩ : ∃ u,u = (((w3.setCell ⟨m,26,none⟩ (.pointer c26)).setCell ⟨m,27,none⟩ (.pointer c27)).setCell ⟨m,28,none⟩ (.pointer c28)).setCell ⟨m,29,none⟩ (.pointer c29) := ⟨_,rfl⟩
 have hbu : Below u5.heap.size u5 w3 := br.drew.trans h3
 have hg3 : w3.heap[m]? = some (.cells #[.pointer c0,.pointer c1,.pointer c2,.pointer c3,.pointer c4,.pointer c5,.pointer c6,.pointer c7,.pointer c8,.pointer c9,.pointer c10,.pointer c11,.pointer c12,.pointer c13,.pointer c14,.pointer c15,.pointer c16,.pointer c17,.pointer c18,.pointer c19,.pointer c20,.pointer c21,.pointer c22,.pointer c23,.pointer c24,.pointer c25,.pointer none,.pointer none,.pointer none,.pointer none,.pointer none,.pointer none,.pointer none,.pointer none] 89 (0,0)) := (hbu.block m hmu).trans HU5.out.1
 have yy0 := cell_at (o := 26) hg3 rfl
 have yy1 := cell_at (o := 27) hg3 rfl
 have yy2 := cell_at (o := 28) hg3 rfl
 have yy3 := cell_at (o := 29) hg3 rfl
 have hg4 : u6.heap[m]? = some (.cells #[.pointer c0,.pointer c1,.pointer c2,.pointer c3,.pointer c4,.pointer c5,.pointer c6,.pointer c7,.pointer c8,.pointer c9,.pointer c10,.pointer c11,.pointer c12,.pointer c13,.pointer c14,.pointer c15,.pointer c16,.pointer c17,.pointer c18,.pointer c19,.pointer c20,.pointer c21,.pointer c22,.pointer c23,.pointer c24,.pointer c25,.pointer c26,.pointer c27,.pointer c28,.pointer c29,.pointer none,.pointer none,.pointer none,.pointer none] 89 (0,0)) := by rw [hu]; exact set4_part hg3 (by kernel_rfl)
 have hw4 : Below W.heap.size W u6 := by rw [hu]; exact below4 (HU5.out.2.1.trans (hbu.mono HU5.out.2.1.size)) HM.out.2.1
 have hr4 : Rcv A0 u6 := by
  rw [HM.out.2.2.2.2]
  exact rcv_more (rcv_more (rcv_noA _) br (HV.out.2.2.2 u6 hw4).2.2 (noW_plain _ rfl)) br hg4 (noW_ptrs [c0,c1,c2,c3,c4,c5,c6,c7,c8,c9,c10,c11,c12,c13,c14,c15,c16,c17,c18,c19,c20,c21,c22,c23,c24,c25,c26,c27,c28,c29,none,none,none,none] _)
 have j0 := keep4 (CQ.keeps _) (o0 := 26) (o1 := 27) (o2 := 28) (o3 := 29) (x0 := .pointer c26) (x1 := .pointer c27) (x2 := .pointer c28) (x3 := .pointer c29) HM.out.2.2.2.1 (Fact.Keeps.below (CQ.keeps _) hbu HU5.out.2.2.2.1)
 rw [← hu] at j0
 have j1 := keep4 (CQ.keeps _) (o0 := 26) (o1 := 27) (o2 := 28) (o3 := 29) (x0 := .pointer c26) (x1 := .pointer c27) (x2 := .pointer c28) (x3 := .pointer c29) HM.out.2.2.2.1 (Fact.Keeps.below (CQ.keeps _) hbu HU5.out.2.2.2.2.1)
 rw [← hu] at j1
 have j2 := keep4 (CQ.keeps _) (o0 := 26) (o1 := 27) (o2 := 28) (o3 := 29) (x0 := .pointer c26) (x1 := .pointer c27) (x2 := .pointer c28) (x3 := .pointer c29) HM.out.2.2.2.1 (Fact.Keeps.below (CQ.keeps _) hbu HU5.out.2.2.2.2.2.1)
 rw [← hu] at j2
 have j3 := keep4 (PQ.keeps _ _) (o0 := 26) (o1 := 27) (o2 := 28) (o3 := 29) (x0 := .pointer c26) (x1 := .pointer c27) (x2 := .pointer c28) (x3 := .pointer c29) HM.out.2.2.2.1 (Fact.Keeps.below (PQ.keeps _ _) hbu HU5.out.2.2.2.2.2.2.1)
 rw [← hu] at j3
 have j4 := keep4 (PQ.keeps _ _) (o0 := 26) (o1 := 27) (o2 := 28) (o3 := 29) (x0 := .pointer c26) (x1 := .pointer c27) (x2 := .pointer c28) (x3 := .pointer c29) HM.out.2.2.2.1 (Fact.Keeps.below (PQ.keeps _ _) hbu HU5.out.2.2.2.2.2.2.2.1)
 rw [← hu] at j4
 have j5 := keep4 (PQ.keeps _ _) (o0 := 26) (o1 := 27) (o2 := 28) (o3 := 29) (x0 := .pointer c26) (x1 := .pointer c27) (x2 := .pointer c28) (x3 := .pointer c29) HM.out.2.2.2.1 (Fact.Keeps.below (PQ.keeps _ _) hbu HU5.out.2.2.2.2.2.2.2.2.1)
 rw [← hu] at j5
 have j6 := keep4 (PQ.keeps _ _) (o0 := 26) (o1 := 27) (o2 := 28) (o3 := 29) (x0 := .pointer c26) (x1 := .pointer c27) (x2 := .pointer c28) (x3 := .pointer c29) HM.out.2.2.2.1 (Fact.Keeps.below (PQ.keeps _ _) hbu HU5.out.2.2.2.2.2.2.2.2.2.1)
 rw [← hu] at j6
 have j7 := keep4 (PZ.keeps _ _ _) (o0 := 26) (o1 := 27) (o2 := 28) (o3 := 29) (x0 := .pointer c26) (x1 := .pointer c27) (x2 := .pointer c28) (x3 := .pointer c29) HM.out.2.2.2.1 (Fact.Keeps.below (PZ.keeps _ _ _) hbu HU5.out.2.2.2.2.2.2.2.2.2.2)
 rw [← hu] at j7
 have l0 := keep4 (PZ.keeps _ _ _) (o0 := 26) (o1 := 27) (o2 := 28) (o3 := 29) (x0 := .pointer c26) (x1 := .pointer c27) (x2 := .pointer c28) (x3 := .pointer c29) HM.out.2.2.2.1 iP
 rw [← hu] at l0
 have HU6 := Lib.hid (And.intro hg4 (And.intro hw4 (And.intro hr4 (And.intro j0 (And.intro j1 (And.intro j2 (And.intro j3 (And.intro j4 (And.intro j5 (And.intro j6 (And.intro j7 l0)))))))))))
 clear l0 j7 j6 j5 j4 j3 j2 j1 j0 hr4 hw4 hg4 hbu hg3
 clear iP hg hmu hRx h3 HU5
 go_wp2_with fail
 clear yy0 yy1 yy2 yy3
 rw [← hu]
 clear hu
 refine onlyN_normal ?_
 go_wp2_with fail
 obtain ⟨kk2,hk2⟩ : ∃ k,k = lastC (ptX p0) (ptY p0) (ptX p2) (ptY p2) (ptX p3) (ptY p3) := ⟨_,rfl⟩
 have HK2 := Lib.hid hk2
 clear hk2
 have hg : u6.drew.heap[m]? = some (.cells #[.pointer c0,.pointer c1,.pointer c2,.pointer c3,.pointer c4,.pointer c5,.pointer c6,.pointer c7,.pointer c8,.pointer c9,.pointer c10,.pointer c11,.pointer c12,.pointer c13,.pointer c14,.pointer c15,.pointer c16,.pointer c17,.pointer c18,.pointer c19,.pointer c20,.pointer c21,.pointer c22,.pointer c23,.pointer c24,.pointer c25,.pointer c26,.pointer c27,.pointer c28,.pointer c29,.pointer none,.pointer none,.pointer none,.pointer none] 89 (0,0)) := HU6.out.1
 have hmu : m < u6.drew.heap.size := (Array.getElem?_eq_some_iff.1 HU6.out.1).1
 have hRx : Rcv A0 u6 := HU6.out.2.2.1
 refine wp_region_swap 27 30 _ (by simp only [withEdge,edged]; rfl) [(.lit,[]),(.lit,[]),(.lit,[]),(.lit,[]),(.lit,[]),(.lit,[]),(.lit,[]),(.lit,[]),(.lit,[]),(.lit,[]),(.lit,[]),(.lit,[]),(.lit,[]),(.lit,[]),(.lit,[]),(.lit,[]),(.lit,[]),(.lit,[]),(.lit,[]),(.lit,[]),(.lit,[]),(.lit,[]),(.lit,[]),(.lit,[]),(.val,[]),(.val,[24]),(.val,[25]),(.val,[25]),(.lit,[]),(.lit,[])]
  (pickF [(24,FactU A0 (Tup (PZ (badP p0 p2 p3) (cX p0 p2 p3 b c) (cY p0 p2 p3 b c)) kk2)),(25,FactU A0 (Tup (PZ (badP p0 p2 p3) (cX p0 p2 p3 b c) (cY p0 p2 p3 b c)) kk2)),(26,FactU A0 (PZ (badP p0 p2 p3) (cX p0 p2 p3 b c) (cY p0 p2 p3 b c))),(27,fun v _ _ => v = .int .i64 kk2)]) (by kernel_rfl) (by kernel_rfl) ?_ ?_ (by simp) (by simp) (by kernel_rfl)
 ·exact keeps_pick (by
   simp only [List.mem_cons,List.not_mem_nil,or_false]
   rintro p (rfl | rfl | rfl | rfl)
   ·exact FactU.keeps (Tup.keeps (PZ.keeps _ _ _) _)
   ·exact FactU.keeps (Tup.keeps (PZ.keeps _ _ _) _)
   ·exact FactU.keeps (PZ.keeps _ _ _)
   ·exact keeps_pure _)
 refine ⟨_,fun f w3 h3 => by (go_simp; rfl),?_⟩
 refine ⟨_,fun f w3 h3 => by (go_simp; rfl),?_⟩
 refine ⟨_,fun f w3 h3 => by (go_simp; rfl),?_⟩
 refine ⟨_,fun f w3 h3 => by (go_simp; rfl),?_⟩
 refine ⟨_,fun f w3 h3 => by (go_simp; rfl),?_⟩
 simp only [Act.put,nrA,nrB,nrC,Nat.reduceAdd]
 refine ⟨_,fun f w3 h3 => exec_load_part 86 _ rfl m 0 rfl 89 _ #[.pointer c0,.pointer c1,.pointer c2,.pointer c3] (0,0) _ ((h3.block m hmu).trans hg) Tryz.underlying86 rfl (by kernel_rfl) (by kernel_rfl),?_⟩
 simp only [Act.put,nrA,nrB,nrC,Nat.reduceAdd]
 refine ⟨_,fun f w3 h3 => by (go_simp; rfl),?_⟩
 refine ⟨_,fun f w3 h3 => by (go_simp; rfl),?_⟩
 refine ⟨_,fun f w3 h3 => by (go_simp; rfl),?_⟩
 refine ⟨_,fun f w3 h3 => by (go_simp; rfl),?_⟩
 simp only [Act.put,nrA,nrB,nrC,Nat.reduceAdd]
 refine ⟨_,fun f w3 h3 => exec_load_part 86 _ rfl m 8 rfl 89 _ #[.pointer c8,.pointer c9,.pointer c10,.pointer c11] (0,0) _ ((h3.block m hmu).trans hg) Tryz.underlying86 rfl (by kernel_rfl) (by kernel_rfl),?_⟩
 simp only [Act.put,nrA,nrB,nrC,Nat.reduceAdd]
 refine ⟨_,fun f w3 h3 => by (go_simp; rfl),?_⟩
 refine ⟨_,fun f w3 h3 => by (go_simp; rfl),?_⟩
 refine ⟨_,fun f w3 h3 => by (go_simp; rfl),?_⟩
 refine ⟨_,fun f w3 h3 => by (go_simp; rfl),?_⟩
 simp only [Act.put,nrA,nrB,nrC,Nat.reduceAdd]
 refine ⟨_,fun f w3 h3 => exec_load_part 86 _ rfl m 12 rfl 89 _ #[.pointer c12,.pointer c13,.pointer c14,.pointer c15] (0,0) _ ((h3.block m hmu).trans hg) Tryz.underlying86 rfl (by kernel_rfl) (by kernel_rfl),?_⟩
 simp only [Act.put,nrA,nrB,nrC,Nat.reduceAdd]
 refine ⟨_,fun f w3 h3 => by (go_simp; rfl),?_⟩
 refine ⟨_,fun f w3 h3 => by (go_simp; rfl),?_⟩
 refine ⟨_,fun f w3 h3 => by (go_simp; rfl),?_⟩
 simp only [Act.put,nrA,nrB,nrC,Nat.reduceAdd]
 refine ⟨_,fun f w3 h3 => exec_load_part 83 _ rfl m 18 rfl 89 _ #[.pointer c18,.pointer c19] (0,0) _ ((h3.block m hmu).trans hg) Tryz.underlying83 rfl (by kernel_rfl) (by kernel_rfl),?_⟩
 simp only [Act.put,nrA,nrB,nrC,Nat.reduceAdd]
 refine ⟨_,fun f w3 h3 => by (go_simp; rfl),?_⟩
 refine ⟨_,fun f w3 h3 => by (go_simp; rfl),?_⟩
 refine ⟨_,fun f w3 h3 => by (go_simp; rfl),?_⟩
 simp only [Act.put,nrA,nrB,nrC,Nat.reduceAdd]
 refine ⟨_,fun f w3 h3 => exec_load_part 83 _ rfl m 20 rfl 89 _ #[.pointer c20,.pointer c21] (0,0) _ ((h3.block m hmu).trans hg) Tryz.underlying83 rfl (by kernel_rfl) (by kernel_rfl),?_⟩
 simp only [Act.put,nrA,nrB,nrC,Nat.reduceAdd]
 refine ⟨fun f w3 A1 k1 hA hN hd K hK => by
  go_simp
  refine (last_any _ _ _ _ _ _ b c _ _ _ _ _ (Un A0 A1) w3 (rcv_un (hRx.below (br.drew.trans k1)) hA) (later (FactU.keeps (PQ.keeps _ _)) (FactU.start (PQ.keeps _ _) HU6.out.2.2.2.2.2.2.1) k1 hN) (later (FactU.keeps (PQ.keeps _ _)) (FactU.start (PQ.keeps _ _) HU6.out.2.2.2.2.2.2.2.2.1) k1 hN) (later (FactU.keeps (PQ.keeps _ _)) (FactU.start (PQ.keeps _ _) HU6.out.2.2.2.2.2.2.2.2.2.1) k1 hN) (later (FactU.keeps (CQ.keeps _)) (FactU.start (CQ.keeps _) HU6.out.2.2.2.2.1) k1 hN) (later (FactU.keeps (CQ.keeps _)) (FactU.start (CQ.keeps _) HU6.out.2.2.2.2.2.1) k1 hN) 1024 (by decide) HL.out.1 HL.out.2.2.2.2.1 HL.out.2.2.1 HL.out.2.2.2.2.2.2.1 HL.out.2.2.2.1 HL.out.2.2.2.2.2.2.2.1 HL.out.2.2.2.2.2.2.2.2.2.1 HL.out.2.2.2.2.2.2.2.2.2.2).mono ?_
  rintro e w' ⟨v,rfl,hb,hr⟩
  exact hK _ _ hb (by rw [HK2.out]; exact hr),?_⟩
 simp only [Act.put,nrA,nrB,nrC,Nat.reduceAdd]
 refine ⟨fun f w3 A1 k1 hA hN hd K hK => by
  have i := hd 24 (by simp)
  go_simp
  exact hK _ _ br i,?_⟩
 simp only [Act.put,nrA,nrB,nrC,Nat.reduceAdd]
 refine ⟨fun f w3 A1 k1 hA hN hd K hK => by
  obtain ⟨u,e,hu⟩ : Tup (PZ (badP p0 p2 p3) (cX p0 p2 p3 b c) (cY p0 p2 p3 b c)) kk2 (f 25) w3 (Un A0 A1) := hd 25 (by simp)
  simp only [e] at hK ⊢
  go_simp
  exact hK _ _ br hu,?_⟩
 simp only [Act.put,nrA,nrB,nrC,Nat.reduceAdd]
 refine ⟨fun f w3 A1 k1 hA hN hd K hK => by
  obtain ⟨u,e,hu⟩ : Tup (PZ (badP p0 p2 p3) (cX p0 p2 p3 b c) (cY p0 p2 p3 b c)) kk2 (f 25) w3 (Un A0 A1) := hd 25 (by simp)
  simp only [e] at hK ⊢
  go_simp
  exact hK _ _ br rfl,?_⟩
 simp only [Act.put,nrA,nrB,nrC,Nat.reduceAdd]
 refine ⟨_,fun f w3 h3 => by (go_simp; rfl),?_⟩
 refine ⟨_,fun f w3 h3 => by (go_simp; rfl),?_⟩
 simp only [Act.put,nrA,nrB,nrC,Nat.reduceAdd]
 intro f w3 A1 h3 hA1 hfr hap hF
 have iC : f 27 = .int .i64 kk2 := hF.2
 have iP := FactU.done (PZ.keeps _ _ _) (Fact.Keeps.noA (FactU.keeps (PZ.keeps _ _ _)) (show FactU A0 (PZ (badP p0 p2 p3) (cX p0 p2 p3 b c) (cY p0 p2 p3 b c)) (f 26) w3 A1 from hF.1.2))
 clear hF hap hA1 hfr
 dsimp only
 obtain ⟨c30,c31,c32,c33,q26⟩ := pz_agg iP
 rw [iC,q26]
 rw [q26] at iP
 generalize f 24 = z24
 generalize f 25 = z25
 clear q26 iC
 obtain ⟨u7,hu⟩ : ∃ u,u = (((w3.setCell ⟨m,30,none⟩ (.pointer c30)).setCell ⟨m,31,none⟩ (.pointer c31)).setCell ⟨m,32,none⟩ (.pointer c32)).setCell ⟨m,33,none⟩ (.pointer c33) := ⟨_,rfl⟩
 have hbu : Below u6.heap.size u6 w3 := br.drew.trans h3
 have hg3 : w3.heap[m]? = some (.cells #[.pointer c0,.pointer c1,.pointer c2,.pointer c3,.pointer c4,.pointer c5,.pointer c6,.pointer c7,.pointer c8,.pointer c9,.pointer c10,.pointer c11,.pointer c12,.pointer c13,.pointer c14,.pointer c15,.pointer c16,.pointer c17,.pointer c18,.pointer c19,.pointer c20,.pointer c21,.pointer c22,.pointer c23,.pointer c24,.pointer c25,.pointer c26,.pointer c27,.pointer c28,.pointer c29,.pointer none,.pointer none,.pointer none,.pointer none] 89 (0,0)) := (hbu.block m hmu).trans HU6.out.1
 have yy0 := cell_at (o := 30) hg3 rfl
 have yy1 := cell_at (o := 31) hg3 rfl
 have yy2 := cell_at (o := 32) hg3 rfl
 have yy3 := cell_at (o := 33) hg3 rfl
 have hg4 : u7.heap[m]? = some (.cells #[.pointer c0,.pointer c1,.pointer c2,.pointer c3,.pointer c4,.pointer c5,.pointer c6,.pointer c7,.pointer c8,.pointer c9,.pointer c10,.pointer c11,.pointer c12,.pointer c13,.pointer c14,.pointer c15,.pointer c16,.pointer c17,.pointer c18,.pointer c19,.pointer c20,.pointer c21,.pointer c22,.pointer c23,.pointer c24,.pointer c25,.pointer c26,.pointer c27,.pointer c28,.pointer c29,.pointer c30,.pointer c31,.pointer c32,.pointer c33] 89 (0,0)) := by rw [hu]; exact set4_part hg3 (by kernel_rfl)
 have hw4 : Below W.heap.size W u7 := by rw [hu]; exact below4 (HU6.out.2.1.trans (hbu.mono HU6.out.2.1.size)) HM.out.2.1
 have hr4 : Rcv A0 u7 := by
  rw [HM.out.2.2.2.2]
  exact rcv_more (rcv_more (rcv_noA _) br (HV.out.2.2.2 u7 hw4).2.2 (noW_plain _ rfl)) br hg4 (noW_ptrs [c0,c1,c2,c3,c4,c5,c6,c7,c8,c9,c10,c11,c12,c13,c14,c15,c16,c17,c18,c19,c20,c21,c22,c23,c24,c25,c26,c27,c28,c29,c30,c31,c32,c33] _)
 have j0 := keep4 (CQ.keeps _) (o0 := 30) (o1 := 31) (o2 := 32) (o3 := 33) (x0 := .pointer c30) (x1 := .pointer c31) (x2 := .pointer c32) (x3 := .pointer c33) HM.out.2.2.2.1 (Fact.Keeps.below (CQ.keeps _) hbu HU6.out.2.2.2.1)
 rw [← hu] at j0
 have j1 := keep4 (CQ.keeps _) (o0 := 30) (o1 := 31) (o2 := 32) (o3 := 33) (x0 := .pointer c30) (x1 := .pointer c31) (x2 := .pointer c32) (x3 := .pointer c33) HM.out.2.2.2.1 (Fact.Keeps.below (CQ.keeps _) hbu HU6.out.2.2.2.2.1)
 rw [← hu] at j1
 have j2 := keep4 (CQ.keeps _) (o0 := 30) (o1 := 31) (o2 := 32) (o3 := 33) (x0 := .pointer c30) (x1 := .pointer c31) (x2 := .pointer c32) (x3 := .pointer c33) HM.out.2.2.2.1 (Fact.Keeps.below (CQ.keeps _) hbu HU6.out.2.2.2.2.2.1)
 rw [← hu] at j2
 have j3 := keep4 (PQ.keeps _ _) (o0 := 30) (o1 := 31) (o2 := 32) (o3 := 33) (x0 := .pointer c30) (x1 := .pointer c31) (x2 := .pointer c32) (x3 := .pointer c33) HM.out.2.2.2.1 (Fact.Keeps.below (PQ.keeps _ _) hbu HU6.out.2.2.2.2.2.2.1)
 rw [← hu] at j3
 have j4 := keep4 (PQ.keeps _ _) (o0 := 30) (o1 := 31) (o2 := 32) (o3 := 33) (x0 := .pointer c30) (x1 := .pointer c31) (x2 := .pointer c32) (x3 := .pointer c33) HM.out.2.2.2.1 (Fact.Keeps.below (PQ.keeps _ _) hbu HU6.out.2.2.2.2.2.2.2.1)
 rw [← hu] at j4
 have j5 := keep4 (PQ.keeps _ _) (o0 := 30) (o1 := 31) (o2 := 32) (o3 := 33) (x0 := .pointer c30) (x1 := .pointer c31) (x2 := .pointer c32) (x3 := .pointer c33) HM.out.2.2.2.1 (Fact.Keeps.below (PQ.keeps _ _) hbu HU6.out.2.2.2.2.2.2.2.2.1)
 rw [← hu] at j5
 have j6 := keep4 (PQ.keeps _ _) (o0 := 30) (o1 := 31) (o2 := 32) (o3 := 33) (x0 := .pointer c30) (x1 := .pointer c31) (x2 := .pointer c32) (x3 := .pointer c33) HM.out.2.2.2.1 (Fact.Keeps.below (PQ.keeps _ _) hbu HU6.out.2.2.2.2.2.2.2.2.2.1)
 rw [← hu] at j6
 have j7 := keep4 (PZ.keeps _ _ _) (o0 := 30) (o1 := 31) (o2 := 32) (o3 := 33) (x0 := .pointer c30) (x1 := .pointer c31) (x2 := .pointer c32) (x3 := .pointer c33) HM.out.2.2.2.1 (Fact.Keeps.below (PZ.keeps _ _ _) hbu HU6.out.2.2.2.2.2.2.2.2.2.2.1)
 rw [← hu] at j7
 have j8 := keep4 (PZ.keeps _ _ _) (o0 := 30) (o1 := 31) (o2 := 32) (o3 := 33) (x0 := .pointer c30) (x1 := .pointer c31) (x2 := .pointer c32) (x3 := .pointer c33) HM.out.2.2.2.1 (Fact.Keeps.below (PZ.keeps _ _ _) hbu HU6.out.2.2.2.2.2.2.2.2.2.2.2)
 rw [← hu] at j8
 have l0 := keep4 (PZ.keeps _ _ _) (o0 := 30) (o1 := 31) (o2 := 32) (o3 := 33) (x0 := .pointer c30) (x1 := .pointer c31) (x2 := .pointer c32) (x3 := .pointer c33) HM.out.2.2.2.1 iP
 rw [← hu] at l0
 have HU7 := Lib.hid (And.intro hg4 (And.intro hw4 (And.intro hr4 (And.intro j0 (And.intro j1 (And.intro j2 (And.intro j3 (And.intro j4 (And.intro j5 (And.intro j6 (And.intro j7 (And.intro j8 l0))))))))))))
 clear l0 j8 j7 j6 j5 j4 j3 j2 j1 j0 hr4 hw4 hg4 hbu hg3
 clear iP hg hmu hRx h3 HU6
 go_wp2_with fail
 clear yy0 yy1 yy2 yy3
 rw [← hu]
 clear hu
 refine onlyN_normal ?_
 by_cases hb1 : badP p0 p1 p2
 case pos =>
  have e0 : kk0 = 370 := by rw [HK0.out]; unfold lastC; exact if_pos hb1
  subst e0
  have hgO := (HV.out.2.2.2 u7 HU7.out.2.1).2.2
  have hrO := (HV.out.2.2.2 u7 HU7.out.2.1).2.1
  have HR := Lib.hid (faces_370 HKV.out (.inl hb1))
  have HB := Lib.hid (HV.out.2.1.trans (HU7.out.2.1.mono HV.out.2.1.size))
  go_wp2_with (first
   | (refine wpList_load_row rfl 37 _ rfl (w.heap.size + 2) rfl 37 _ (0,0) _ hgO Tryz.underlying37 rfl (by kernel_rfl) ?_)
   | (refine wpList_store_row rfl 37 _ _ rfl (w.heap.size + 1) #[.bool false,.bool false,.string ⟨#[]⟩,.bool false,.string ⟨#[]⟩,.bool false,.string ⟨#[]⟩,.bool false,.string ⟨#[]⟩,.bool false,.bool false,.string ⟨#[]⟩,.bool false,.string ⟨#[]⟩,.bool false,.string ⟨#[]⟩,.bool false,.string ⟨#[]⟩,.bool false,.bool false,.string ⟨#[]⟩,.bool false,.string ⟨#[]⟩,.bool false,.string ⟨#[]⟩,.bool false,.string ⟨#[]⟩] rfl rfl 37 _ hrO (by kernel_rfl) (by kernel_rfl) (by kernel_rfl) ?_))
  have hres := setRow_heap u7 (w.heap.size + 1) _ #[.bool false,.bool false,.string ⟨#[]⟩,.bool false,.string ⟨#[]⟩,.bool false,.string ⟨#[]⟩,.bool false,.string ⟨#[]⟩,.bool false,.bool false,.string ⟨#[]⟩,.bool false,.string ⟨#[]⟩,.bool false,.string ⟨#[]⟩,.bool false,.string ⟨#[]⟩,.bool false,.bool false,.string ⟨#[]⟩,.bool false,.string ⟨#[]⟩,.bool false,.string ⟨#[]⟩,.bool false,.string ⟨#[]⟩] _ _ hrO
  refine bodyPost_ret (v := .tuple #[.agg #[.bool false,.bool false,.string ⟨#[]⟩,.bool false,.string ⟨#[]⟩,.bool false,.string ⟨#[]⟩,.bool false,.string ⟨#[]⟩,.bool false,.bool false,.string ⟨#[]⟩,.bool false,.string ⟨#[]⟩,.bool false,.string ⟨#[]⟩,.bool false,.string ⟨#[]⟩,.bool false,.bool false,.string ⟨#[]⟩,.bool false,.string ⟨#[]⟩,.bool false,.string ⟨#[]⟩,.bool false,.string ⟨#[]⟩],.int .i64 370]) (results_cell_tmp Tryz.results16 _ _ (w.heap.size + 1) 37 _ (0,0) _ _ (by rfl) (by rfl) hres Tryz.underlying37 rfl (by kernel_rfl)) rfl ⟨by rw [HR.out.1,HR.out.2]; rfl,below_setRow HB.out (by omega) _⟩
 have e0 : kk0 = 0 := by rw [HK0.out]; unfold lastC; exact if_neg hb1
 subst e0
 by_cases hb2 : badP p0 p1 p3
 case pos =>
  have e1 : kk1 = 370 := by rw [HK1.out]; unfold lastC; exact if_pos hb2
  subst e1
  have hgO := (HV.out.2.2.2 u7 HU7.out.2.1).2.2
  have hrO := (HV.out.2.2.2 u7 HU7.out.2.1).2.1
  have HR := Lib.hid (faces_370 HKV.out (.inr (.inl hb2)))
  have HB := Lib.hid (HV.out.2.1.trans (HU7.out.2.1.mono HV.out.2.1.size))
  go_wp2_with (first
   | (refine wpList_load_row rfl 37 _ rfl (w.heap.size + 2) rfl 37 _ (0,0) _ hgO Tryz.underlying37 rfl (by kernel_rfl) ?_)
   | (refine wpList_store_row rfl 37 _ _ rfl (w.heap.size + 1) #[.bool false,.bool false,.string ⟨#[]⟩,.bool false,.string ⟨#[]⟩,.bool false,.string ⟨#[]⟩,.bool false,.string ⟨#[]⟩,.bool false,.bool false,.string ⟨#[]⟩,.bool false,.string ⟨#[]⟩,.bool false,.string ⟨#[]⟩,.bool false,.string ⟨#[]⟩,.bool false,.bool false,.string ⟨#[]⟩,.bool false,.string ⟨#[]⟩,.bool false,.string ⟨#[]⟩,.bool false,.string ⟨#[]⟩] rfl rfl 37 _ hrO (by kernel_rfl) (by kernel_rfl) (by kernel_rfl) ?_))
  have hres := setRow_heap u7 (w.heap.size + 1) _ #[.bool false,.bool false,.string ⟨#[]⟩,.bool false,.string ⟨#[]⟩,.bool false,.string ⟨#[]⟩,.bool false,.string ⟨#[]⟩,.bool false,.bool false,.string ⟨#[]⟩,.bool false,.string ⟨#[]⟩,.bool false,.string ⟨#[]⟩,.bool false,.string ⟨#[]⟩,.bool false,.bool false,.string ⟨#[]⟩,.bool false,.string ⟨#[]⟩,.bool false,.string ⟨#[]⟩,.bool false,.string ⟨#[]⟩] _ _ hrO
  refine bodyPost_ret (v := .tuple #[.agg #[.bool false,.bool false,.string ⟨#[]⟩,.bool false,.string ⟨#[]⟩,.bool false,.string ⟨#[]⟩,.bool false,.string ⟨#[]⟩,.bool false,.bool false,.string ⟨#[]⟩,.bool false,.string ⟨#[]⟩,.bool false,.string ⟨#[]⟩,.bool false,.string ⟨#[]⟩,.bool false,.bool false,.string ⟨#[]⟩,.bool false,.string ⟨#[]⟩,.bool false,.string ⟨#[]⟩,.bool false,.string ⟨#[]⟩],.int .i64 370]) (results_cell_tmp Tryz.results16 _ _ (w.heap.size + 1) 37 _ (0,0) _ _ (by rfl) (by rfl) hres Tryz.underlying37 rfl (by kernel_rfl)) rfl ⟨by rw [HR.out.1,HR.out.2]; rfl,below_setRow HB.out (by omega) _⟩
 have e1 : kk1 = 0 := by rw [HK1.out]; unfold lastC; exact if_neg hb2
 subst e1
 by_cases hb3 : badP p0 p2 p3
 case pos =>
  have e2 : kk2 = 370 := by rw [HK2.out]; unfold lastC; exact if_pos hb3
  subst e2
  have hgO := (HV.out.2.2.2 u7 HU7.out.2.1).2.2
  have hrO := (HV.out.2.2.2 u7 HU7.out.2.1).2.1
  have HR := Lib.hid (faces_370 HKV.out (.inr (.inr (.inl hb3))))
  have HB := Lib.hid (HV.out.2.1.trans (HU7.out.2.1.mono HV.out.2.1.size))
  go_wp2_with (first
   | (refine wpList_load_row rfl 37 _ rfl (w.heap.size + 2) rfl 37 _ (0,0) _ hgO Tryz.underlying37 rfl (by kernel_rfl) ?_)
   | (refine wpList_store_row rfl 37 _ _ rfl (w.heap.size + 1) #[.bool false,.bool false,.string ⟨#[]⟩,.bool false,.string ⟨#[]⟩,.bool false,.string ⟨#[]⟩,.bool false,.string ⟨#[]⟩,.bool false,.bool false,.string ⟨#[]⟩,.bool false,.string ⟨#[]⟩,.bool false,.string ⟨#[]⟩,.bool false,.string ⟨#[]⟩,.bool false,.bool false,.string ⟨#[]⟩,.bool false,.string ⟨#[]⟩,.bool false,.string ⟨#[]⟩,.bool false,.string ⟨#[]⟩] rfl rfl 37 _ hrO (by kernel_rfl) (by kernel_rfl) (by kernel_rfl) ?_))
  have hres := setRow_heap u7 (w.heap.size + 1) _ #[.bool false,.bool false,.string ⟨#[]⟩,.bool false,.string ⟨#[]⟩,.bool false,.string ⟨#[]⟩,.bool false,.string ⟨#[]⟩,.bool false,.bool false,.string ⟨#[]⟩,.bool false,.string ⟨#[]⟩,.bool false,.string ⟨#[]⟩,.bool false,.string ⟨#[]⟩,.bool false,.bool false,.string ⟨#[]⟩,.bool false,.string ⟨#[]⟩,.bool false,.string ⟨#[]⟩,.bool false,.string ⟨#[]⟩] _ _ hrO
  refine bodyPost_ret (v := .tuple #[.agg #[.bool false,.bool false,.string ⟨#[]⟩,.bool false,.string ⟨#[]⟩,.bool false,.string ⟨#[]⟩,.bool false,.string ⟨#[]⟩,.bool false,.bool false,.string ⟨#[]⟩,.bool false,.string ⟨#[]⟩,.bool false,.string ⟨#[]⟩,.bool false,.string ⟨#[]⟩,.bool false,.bool false,.string ⟨#[]⟩,.bool false,.string ⟨#[]⟩,.bool false,.string ⟨#[]⟩,.bool false,.string ⟨#[]⟩],.int .i64 370]) (results_cell_tmp Tryz.results16 _ _ (w.heap.size + 1) 37 _ (0,0) _ _ (by rfl) (by rfl) hres Tryz.underlying37 rfl (by kernel_rfl)) rfl ⟨by rw [HR.out.1,HR.out.2]; rfl,below_setRow HB.out (by omega) _⟩
 have e2 : kk2 = 0 := by rw [HK2.out]; unfold lastC; exact if_neg hb3
 subst e2
 go_wp2_with fail
 obtain ⟨oi,on1,os1,on2,os2,on3,os3,on4,os4,eo⟩ := outP_nine (wX p1 p2 p3 a b c) (wY p1 p2 p3 a b c)
 obtain ⟨v0,hv0⟩ : ∃ v,v = u7 := ⟨_,rfl⟩
 have HV0 := Lib.hid (And.intro HU7.out.1 (And.intro (HV.out.2.2.2 u7 HU7.out.2.1).2.2 (And.intro (HV.out.2.2.2 u7 HU7.out.2.1).2.1 (And.intro (HV.out.2.1.trans (HU7.out.2.1.mono HV.out.2.1.size)) (And.intro HU7.out.2.2.2.1 (And.intro HU7.out.2.2.2.2.1 (And.intro HU7.out.2.2.2.2.2.1 (And.intro HU7.out.2.2.2.2.2.2.2.1 (And.intro HU7.out.2.2.2.2.2.2.2.2.1 (And.intro HU7.out.2.2.2.2.2.2.2.2.2.1 (And.intro (HU7.out.2.2.2.2.2.2.2.2.2.2.1.elim (fun h => absurd h.1 hb1) (fun h => h.2)) (And.intro (HU7.out.2.2.2.2.2.2.2.2.2.2.2.1.elim (fun h => absurd h.1 hb2) (fun h => h.2)) (HU7.out.2.2.2.2.2.2.2.2.2.2.2.2.elim (fun h => absurd h.1 hb3) (fun h => h.2))))))))))))))
 rw [← hv0] at HV0 ⊢
 clear hv0 HU7
 rcases outPC_or (wX p1 p2 p3 a b c) (wY p1 p2 p3 a b c) with hoc | hoc
 all_goals (
  have HO := Lib.hid (And.intro eo hoc)
  clear eo hoc
  refine wp_loop_rounds 4 ?_
  have ix : ∀ w,(Instr.index 94 (.agg #[.func (.func 41) #[.pointer (some ⟨m,0,none⟩)] #[],.func (.func 42) #[.pointer (some ⟨m,0,none⟩)] #[],.func (.func 43) #[.pointer (some ⟨m,0,none⟩)] #[]]) (.int .i64 0)).run Tryz.prog w = .ok (.func (.func 41) #[.pointer (some ⟨m,0,none⟩)] #[]) w := fun _ => by kernel_rfl
  rw [rounds_succ]
  go_wp2_with fail
  clear ix
  have HCF := Lib.hid (first_any m c0 c1 c2 c3 c4 c5 c6 c7 c8 c9 c10 c11 c12 c13 c14 c15 c16 c17 c18 c19 c20 c21 c22 c23 c24 c25 c26 c27 c28 c29 c30 c31 c32 c33 v0 HV0.out.1 (ptX p1) (ptY p1) (cX p0 p1 p2 a b) (cY p0 p1 p2 a b) (cX p0 p1 p3 a c) (cY p0 p1 p3 a c) b c (less_of (PQ.keeps _ _) HV0.out.2.2.2.2.2.2.2.1 (fun b h => h.elim)) (less_of (PQ.keeps _ _) HV0.out.2.2.2.2.2.2.2.2.2.2.1 (fun b h => h.elim)) (less_of (PQ.keeps _ _) HV0.out.2.2.2.2.2.2.2.2.2.2.2.1 (fun b h => h.elim)) (less_of (CQ.keeps _) HV0.out.2.2.2.2.2.1 (fun b h => h.elim)) (less_of (CQ.keeps _) HV0.out.2.2.2.2.2.2.1 (fun b h => h.elim)) ((HL.out.2.1).mono (by decide)) ((HL.out.2.2.2.2.2.1).mono (by decide)) ((HZ.out.1).mono (by decide)) ((HZ.out.2.1).mono (by decide)) ((HZ.out.2.2.1).mono (by decide)) ((HZ.out.2.2.2.1).mono (by decide)) ((HL.out.2.2.2.2.2.2.2.2.2.1).mono (by decide)) ((HL.out.2.2.2.2.2.2.2.2.2.2).mono (by decide)))
  refine HCF.out.mono ?_
  clear HCF
  rintro e y ⟨u,rfl,hby,u',rfl,hp⟩
  obtain ⟨d1,d2,d3,d4,rfl⟩ := pz_agg hp
  obtain ⟨kf,hkf⟩ : ∃ k,k = lastC (ptX p1) (ptY p1) (cX p0 p1 p2 a b) (cY p0 p1 p2 a b) (cX p0 p1 p3 a c) (cY p0 p1 p3 a c) := ⟨_,rfl⟩
  rw [← hkf]
  have HKF := Lib.hid hkf
  clear hkf
  obtain ⟨x,hx⟩ : ∃ x,x = y.alloc (.cells #[.pointer d1,.pointer d2,.pointer d3,.pointer d4] 86) := ⟨_,rfl⟩
  have hyx : Below y.heap.size y x := by rw [hx]; exact br.alloc (Nat.le_refl _) _
  have hvx : Below v0.heap.size v0 x := hby.trans (hyx.mono hby.size)
  by_cases hbf0 : bad1 p0 p1 p2 p3 a b c
  case pos =>
   have ek : kf = 370 := by rw [HKF.out]; unfold lastC; exact if_pos hbf0
   subst ek
   have hr1 := HV0.out.2.2.1
   have hrO : x.heap[(w.heap.size + 1)]? = some (.cells #[.bool false,.bool false,.string ⟨#[]⟩,.bool false,.string ⟨#[]⟩,.bool false,.string ⟨#[]⟩,.bool false,.string ⟨#[]⟩,.bool false,.bool false,.string ⟨#[]⟩,.bool false,.string ⟨#[]⟩,.bool false,.string ⟨#[]⟩,.bool false,.string ⟨#[]⟩,.bool false,.bool false,.string ⟨#[]⟩,.bool false,.string ⟨#[]⟩,.bool false,.string ⟨#[]⟩,.bool false,.string ⟨#[]⟩] 37 (0,0)) := (hvx.block _ (Array.getElem?_eq_some_iff.1 hr1).1).trans hr1
   have HR := Lib.hid (faces_370 HKV.out (.inr (.inr (.inr (.inl hbf0)))))
   have hbz := HV0.out.2.2.2.1.trans (hvx.mono HV0.out.2.2.2.1.size)
   rw [hx] at hrO hbz
   have HBz := Lib.hid hbz
   clear hbz hr1 hyx hvx hby hp hx
   go_wp2_with (first
    | (refine Go.Great.wpList_buildTo rfl 37 _ rfl (some 179) rfl #[.bool false,.bool false,.string ⟨#[]⟩,.bool false,.string ⟨#[]⟩,.bool false,.string ⟨#[]⟩,.bool false,.string ⟨#[]⟩,.bool false,.bool false,.string ⟨#[]⟩,.bool false,.string ⟨#[]⟩,.bool false,.string ⟨#[]⟩,.bool false,.string ⟨#[]⟩,.bool false,.bool false,.string ⟨#[]⟩,.bool false,.string ⟨#[]⟩,.bool false,.string ⟨#[]⟩,.bool false,.string ⟨#[]⟩] (by kernel_rfl) ?_)
    | (refine wpList_store_row rfl 37 _ _ rfl (w.heap.size + 1) #[.bool false,.bool false,.string ⟨#[]⟩,.bool false,.string ⟨#[]⟩,.bool false,.string ⟨#[]⟩,.bool false,.string ⟨#[]⟩,.bool false,.bool false,.string ⟨#[]⟩,.bool false,.string ⟨#[]⟩,.bool false,.string ⟨#[]⟩,.bool false,.string ⟨#[]⟩,.bool false,.bool false,.string ⟨#[]⟩,.bool false,.string ⟨#[]⟩,.bool false,.string ⟨#[]⟩,.bool false,.string ⟨#[]⟩] rfl rfl 37 _ hrO (by kernel_rfl) (by kernel_rfl) (by kernel_rfl) ?_))
   have hres := setRow_heap _ (w.heap.size + 1) _ #[.bool false,.bool false,.string ⟨#[]⟩,.bool false,.string ⟨#[]⟩,.bool false,.string ⟨#[]⟩,.bool false,.string ⟨#[]⟩,.bool false,.bool false,.string ⟨#[]⟩,.bool false,.string ⟨#[]⟩,.bool false,.string ⟨#[]⟩,.bool false,.string ⟨#[]⟩,.bool false,.bool false,.string ⟨#[]⟩,.bool false,.string ⟨#[]⟩,.bool false,.string ⟨#[]⟩,.bool false,.string ⟨#[]⟩] _ _ hrO
   refine bodyPost_ret (v := .tuple #[.agg #[.bool false,.bool false,.string ⟨#[]⟩,.bool false,.string ⟨#[]⟩,.bool false,.string ⟨#[]⟩,.bool false,.string ⟨#[]⟩,.bool false,.bool false,.string ⟨#[]⟩,.bool false,.string ⟨#[]⟩,.bool false,.string ⟨#[]⟩,.bool false,.string ⟨#[]⟩,.bool false,.bool false,.string ⟨#[]⟩,.bool false,.string ⟨#[]⟩,.bool false,.string ⟨#[]⟩,.bool false,.string ⟨#[]⟩],.int .i64 370]) (results_cell_tmp Tryz.results16 _ _ (w.heap.size + 1) 37 _ (0,0) _ _ (by rfl) (by rfl) hres Tryz.underlying37 rfl (by kernel_rfl)) rfl ⟨by rw [HR.out.1,HR.out.2]; rfl,below_setRow HBz.out (by omega) _⟩
  have ek : kf = 0 := by rw [HKF.out]; unfold lastC; exact if_neg hbf0
  subst ek
  have hpq : PQ (lastX (ptX p1) (ptY p1) (cX p0 p1 p2 a b) (cY p0 p1 p2 a b) (cX p0 p1 p3 a c) (cY p0 p1 p3 a c) b c) (lastY (ptX p1) (ptY p1) (cX p0 p1 p2 a b) (cY p0 p1 p2 a b) (cX p0 p1 p3 a c) (cY p0 p1 p3 a c) b c) (.agg #[.pointer d1,.pointer d2,.pointer d3,.pointer d4]) x NoA := Fact.Keeps.below (PQ.keeps _ _) hyx (hp.elim (fun h => absurd h.1 hbf0) (fun h => h.2))
  have zz : ZL (lastX (ptX p1) (ptY p1) (cX p0 p1 p2 a b) (cY p0 p1 p2 a b) (cX p0 p1 p3 a c) (cY p0 p1 p3 a c) b c) 200000200 ∧ ZL (lastY (ptX p1) (ptY p1) (cX p0 p1 p2 a b) (cY p0 p1 p2 a b) (cX p0 p1 p3 a c) (cY p0 p1 p3 a c) b c) 200000200 := ZL_last (k := 1000000) ((HL.out.2.1).mono (by decide)) ((HL.out.2.2.2.2.2.1).mono (by decide)) ((HZ.out.1).mono (by decide)) ((HZ.out.2.1).mono (by decide)) ((HZ.out.2.2.1).mono (by decide)) ((HZ.out.2.2.2.1).mono (by decide)) ((HL.out.2.2.2.2.2.2.2.2.2.1).mono (by decide)) ((HL.out.2.2.2.2.2.2.2.2.2.2).mono (by decide))
  have hpp := PPoint_any _ _ _ NoA x hpq 200000200 200000200 zz.1 zz.2 (by decide)
  rw [(face1_out HN.out.1 HN.out.2.1 HN.out.2.2 hb1 hb2).1,(face1_out HN.out.1 HN.out.2.1 HN.out.2.2 hb1 hb2).2,HO.out.1,HO.out.2] at hpp
  rw [hx] at hpp
  have HPP := Lib.hid hpp
  have HVX := Lib.hid hvx
  have HX := Lib.hid hx
  clear hpp zz hpq hp hby hyx hvx hx HKF
  go_wp2_with fail
  refine HPP.out.mono ?_
  rintro e z ⟨rfl,hbz⟩
  rw [← HX.out] at hbz
  have hvz : Below v0.heap.size v0 z := HVX.out.trans (hbz.mono HVX.out.size)
  have hg2 : z.heap[(w.heap.size + 2)]? = some (.cells #[.bool false,.bool false,.string ⟨#[]⟩,.bool false,.string ⟨#[]⟩,.bool false,.string ⟨#[]⟩,.bool false,.string ⟨#[]⟩,.bool false,.bool false,.string ⟨#[]⟩,.bool false,.string ⟨#[]⟩,.bool false,.string ⟨#[]⟩,.bool false,.string ⟨#[]⟩,.bool false,.bool false,.string ⟨#[]⟩,.bool false,.string ⟨#[]⟩,.bool false,.string ⟨#[]⟩,.bool false,.string ⟨#[]⟩] 37 (0,0)) := (hvz.block _ (Array.getElem?_eq_some_iff.1 HV0.out.2.1).1).trans HV0.out.2.1
  have yy0 := cell_at (o := 0) hg2 rfl
  have yy1 := cell_at (o := 1) hg2 rfl
  have yy2 := cell_at (o := 2) hg2 rfl
  have yy3 := cell_at (o := 3) hg2 rfl
  have yy4 := cell_at (o := 4) hg2 rfl
  have yy5 := cell_at (o := 5) hg2 rfl
  have yy6 := cell_at (o := 6) hg2 rfl
  have yy7 := cell_at (o := 7) hg2 rfl
  have yy8 := cell_at (o := 8) hg2 rfl
  obtain ⟨v1,hv⟩ : ∃ v,v = ((((((((z.setCell ⟨(w.heap.size + 2),0,none⟩ (.bool oi)).setCell ⟨(w.heap.size + 2),1,none⟩ (.bool on1)).setCell ⟨(w.heap.size + 2),2,none⟩ (.string os1)).setCell ⟨(w.heap.size + 2),3,none⟩ (.bool on2)).setCell ⟨(w.heap.size + 2),4,none⟩ (.string os2)).setCell ⟨(w.heap.size + 2),5,none⟩ (.bool on3)).setCell ⟨(w.heap.size + 2),6,none⟩ (.string os3)).setCell ⟨(w.heap.size + 2),7,none⟩ (.bool on4)).setCell ⟨(w.heap.size + 2),8,none⟩ (.string os4) := ⟨_,rfl⟩
  have mB : m ≠ (w.heap.size + 2) := by have h1 := HM.out.2.1; have h2 := HV.out.2.2.1; omega
  have nm : v1.heap[m]? = some (.cells #[.pointer c0,.pointer c1,.pointer c2,.pointer c3,.pointer c4,.pointer c5,.pointer c6,.pointer c7,.pointer c8,.pointer c9,.pointer c10,.pointer c11,.pointer c12,.pointer c13,.pointer c14,.pointer c15,.pointer c16,.pointer c17,.pointer c18,.pointer c19,.pointer c20,.pointer c21,.pointer c22,.pointer c23,.pointer c24,.pointer c25,.pointer c26,.pointer c27,.pointer c28,.pointer c29,.pointer c30,.pointer c31,.pointer c32,.pointer c33] 89 (0,0)) := by rw [hv,other9 mB]; exact (hvz.block _ (Array.getElem?_eq_some_iff.1 HV0.out.1).1).trans HV0.out.1
  have n2 : v1.heap[(w.heap.size + 2)]? = some (.cells #[.bool oi,.bool on1,.string os1,.bool on2,.string os2,.bool on3,.string os3,.bool on4,.string os4,.bool false,.bool false,.string ⟨#[]⟩,.bool false,.string ⟨#[]⟩,.bool false,.string ⟨#[]⟩,.bool false,.string ⟨#[]⟩,.bool false,.bool false,.string ⟨#[]⟩,.bool false,.string ⟨#[]⟩,.bool false,.string ⟨#[]⟩,.bool false,.string ⟨#[]⟩] 37 (0,0)) := by rw [hv]; exact set9_part hg2 (by kernel_rfl)
  have n1 : v1.heap[(w.heap.size + 1)]? = some (.cells #[.bool false,.bool false,.string ⟨#[]⟩,.bool false,.string ⟨#[]⟩,.bool false,.string ⟨#[]⟩,.bool false,.string ⟨#[]⟩,.bool false,.bool false,.string ⟨#[]⟩,.bool false,.string ⟨#[]⟩,.bool false,.string ⟨#[]⟩,.bool false,.string ⟨#[]⟩,.bool false,.bool false,.string ⟨#[]⟩,.bool false,.string ⟨#[]⟩,.bool false,.string ⟨#[]⟩,.bool false,.string ⟨#[]⟩] 37 (0,0)) := by rw [hv,other9 (by omega)]; exact (hvz.block _ (Array.getElem?_eq_some_iff.1 HV0.out.2.2.1).1).trans HV0.out.2.2.1
  have nb : Below w.heap.size w v1 := by rw [hv]; exact below9 (HV0.out.2.2.2.1.trans (hvz.mono HV0.out.2.2.2.1.size)) (by omega)
  have j0 := keep9 (CQ.keeps _) (o0 := 0) (o1 := 1) (o2 := 2) (o3 := 3) (o4 := 4) (o5 := 5) (o6 := 6) (o7 := 7) (o8 := 8) (x0 := .bool oi) (x1 := .bool on1) (x2 := .string os1) (x3 := .bool on2) (x4 := .string os2) (x5 := .bool on3) (x6 := .string os3) (x7 := .bool on4) (x8 := .string os4) HM.out.2.2.1 (Fact.Keeps.below (CQ.keeps _) hvz HV0.out.2.2.2.2.1)
  rw [← hv] at j0
  have j1 := keep9 (CQ.keeps _) (o0 := 0) (o1 := 1) (o2 := 2) (o3 := 3) (o4 := 4) (o5 := 5) (o6 := 6) (o7 := 7) (o8 := 8) (x0 := .bool oi) (x1 := .bool on1) (x2 := .string os1) (x3 := .bool on2) (x4 := .string os2) (x5 := .bool on3) (x6 := .string os3) (x7 := .bool on4) (x8 := .string os4) HM.out.2.2.1 (Fact.Keeps.below (CQ.keeps _) hvz HV0.out.2.2.2.2.2.1)
  rw [← hv] at j1
  have j2 := keep9 (CQ.keeps _) (o0 := 0) (o1 := 1) (o2 := 2) (o3 := 3) (o4 := 4) (o5 := 5) (o6 := 6) (o7 := 7) (o8 := 8) (x0 := .bool oi) (x1 := .bool on1) (x2 := .string os1) (x3 := .bool on2) (x4 := .string os2) (x5 := .bool on3) (x6 := .string os3) (x7 := .bool on4) (x8 := .string os4) HM.out.2.2.1 (Fact.Keeps.below (CQ.keeps _) hvz HV0.out.2.2.2.2.2.2.1)
  rw [← hv] at j2
  have j3 := keep9 (PQ.keeps _ _) (o0 := 0) (o1 := 1) (o2 := 2) (o3 := 3) (o4 := 4) (o5 := 5) (o6 := 6) (o7 := 7) (o8 := 8) (x0 := .bool oi) (x1 := .bool on1) (x2 := .string os1) (x3 := .bool on2) (x4 := .string os2) (x5 := .bool on3) (x6 := .string os3) (x7 := .bool on4) (x8 := .string os4) HM.out.2.2.1 (Fact.Keeps.below (PQ.keeps _ _) hvz HV0.out.2.2.2.2.2.2.2.1)
  rw [← hv] at j3
  have j4 := keep9 (PQ.keeps _ _) (o0 := 0) (o1 := 1) (o2 := 2) (o3 := 3) (o4 := 4) (o5 := 5) (o6 := 6) (o7 := 7) (o8 := 8) (x0 := .bool oi) (x1 := .bool on1) (x2 := .string os1) (x3 := .bool on2) (x4 := .string os2) (x5 := .bool on3) (x6 := .string os3) (x7 := .bool on4) (x8 := .string os4) HM.out.2.2.1 (Fact.Keeps.below (PQ.keeps _ _) hvz HV0.out.2.2.2.2.2.2.2.2.1)
  rw [← hv] at j4
  have j5 := keep9 (PQ.keeps _ _) (o0 := 0) (o1 := 1) (o2 := 2) (o3 := 3) (o4 := 4) (o5 := 5) (o6 := 6) (o7 := 7) (o8 := 8) (x0 := .bool oi) (x1 := .bool on1) (x2 := .string os1) (x3 := .bool on2) (x4 := .string os2) (x5 := .bool on3) (x6 := .string os3) (x7 := .bool on4) (x8 := .string os4) HM.out.2.2.1 (Fact.Keeps.below (PQ.keeps _ _) hvz HV0.out.2.2.2.2.2.2.2.2.2.1)
  rw [← hv] at j5
  have j6 := keep9 (PQ.keeps _ _) (o0 := 0) (o1 := 1) (o2 := 2) (o3 := 3) (o4 := 4) (o5 := 5) (o6 := 6) (o7 := 7) (o8 := 8) (x0 := .bool oi) (x1 := .bool on1) (x2 := .string os1) (x3 := .bool on2) (x4 := .string os2) (x5 := .bool on3) (x6 := .string os3) (x7 := .bool on4) (x8 := .string os4) HM.out.2.2.1 (Fact.Keeps.below (PQ.keeps _ _) hvz HV0.out.2.2.2.2.2.2.2.2.2.2.1)
  rw [← hv] at j6
  have j7 := keep9 (PQ.keeps _ _) (o0 := 0) (o1 := 1) (o2 := 2) (o3 := 3) (o4 := 4) (o5 := 5) (o6 := 6) (o7 := 7) (o8 := 8) (x0 := .bool oi) (x1 := .bool on1) (x2 := .string os1) (x3 := .bool on2) (x4 := .string os2) (x5 := .bool on3) (x6 := .string os3) (x7 := .bool on4) (x8 := .string os4) HM.out.2.2.1 (Fact.Keeps.below (PQ.keeps _ _) hvz HV0.out.2.2.2.2.2.2.2.2.2.2.2.1)
  rw [← hv] at j7
  have j8 := keep9 (PQ.keeps _ _) (o0 := 0) (o1 := 1) (o2 := 2) (o3 := 3) (o4 := 4) (o5 := 5) (o6 := 6) (o7 := 7) (o8 := 8) (x0 := .bool oi) (x1 := .bool on1) (x2 := .string os1) (x3 := .bool on2) (x4 := .string os2) (x5 := .bool on3) (x6 := .string os3) (x7 := .bool on4) (x8 := .string os4) HM.out.2.2.1 (Fact.Keeps.below (PQ.keeps _ _) hvz HV0.out.2.2.2.2.2.2.2.2.2.2.2.2)
  rw [← hv] at j8
  have HV1 := Lib.hid (And.intro nm (And.intro n2 (And.intro n1 (And.intro nb (And.intro j0 (And.intro j1 (And.intro j2 (And.intro j3 (And.intro j4 (And.intro j5 (And.intro j6 (And.intro j7 j8))))))))))))
  clear j8 j7 j6 j5 j4 j3 j2 j1 j0 nb n1 n2 nm mB hg2 hvz hbz HPP HVX HX HV0
  go_wp2_with fail
  clear yy0 yy1 yy2 yy3 yy4 yy5 yy6 yy7 yy8
  rw [← hv]
  clear hv
  have ix : ∀ w,(Instr.index 94 (.agg #[.func (.func 41) #[.pointer (some ⟨m,0,none⟩)] #[],.func (.func 42) #[.pointer (some ⟨m,0,none⟩)] #[],.func (.func 43) #[.pointer (some ⟨m,0,none⟩)] #[]]) (.int .i64 1)).run Tryz.prog w = .ok (.func (.func 42) #[.pointer (some ⟨m,0,none⟩)] #[]) w := fun _ => by kernel_rfl
  rw [rounds_succ]
  go_wp2_with fail
  clear ix
  have HCF := Lib.hid (second_any m c0 c1 c2 c3 c4 c5 c6 c7 c8 c9 c10 c11 c12 c13 c14 c15 c16 c17 c18 c19 c20 c21 c22 c23 c24 c25 c26 c27 c28 c29 c30 c31 c32 c33 v1 HV1.out.1 (ptX p2) (ptY p2) (cX p0 p1 p2 a b) (cY p0 p1 p2 a b) (cX p0 p2 p3 b c) (cY p0 p2 p3 b c) a c (less_of (PQ.keeps _ _) HV1.out.2.2.2.2.2.2.2.2.1 (fun b h => h.elim)) (less_of (PQ.keeps _ _) HV1.out.2.2.2.2.2.2.2.2.2.2.1 (fun b h => h.elim)) (less_of (PQ.keeps _ _) HV1.out.2.2.2.2.2.2.2.2.2.2.2.2 (fun b h => h.elim)) (less_of (CQ.keeps _) HV1.out.2.2.2.2.1 (fun b h => h.elim)) (less_of (CQ.keeps _) HV1.out.2.2.2.2.2.2.1 (fun b h => h.elim)) ((HL.out.2.2.1).mono (by decide)) ((HL.out.2.2.2.2.2.2.1).mono (by decide)) ((HZ.out.1).mono (by decide)) ((HZ.out.2.1).mono (by decide)) ((HZ.out.2.2.2.2.1).mono (by decide)) ((HZ.out.2.2.2.2.2).mono (by decide)) ((HL.out.2.2.2.2.2.2.2.2.1).mono (by decide)) ((HL.out.2.2.2.2.2.2.2.2.2.2).mono (by decide)))
  refine HCF.out.mono ?_
  clear HCF
  rintro e y ⟨u,rfl,hby,u',rfl,hp⟩
  obtain ⟨d1,d2,d3,d4,rfl⟩ := pz_agg hp
  obtain ⟨kf,hkf⟩ : ∃ k,k = lastC (ptX p2) (ptY p2) (cX p0 p1 p2 a b) (cY p0 p1 p2 a b) (cX p0 p2 p3 b c) (cY p0 p2 p3 b c) := ⟨_,rfl⟩
  rw [← hkf]
  have HKF := Lib.hid hkf
  clear hkf
  obtain ⟨x,hx⟩ : ∃ x,x = y.alloc (.cells #[.pointer d1,.pointer d2,.pointer d3,.pointer d4] 86) := ⟨_,rfl⟩
  have hyx : Below y.heap.size y x := by rw [hx]; exact br.alloc (Nat.le_refl _) _
  have hvx : Below v1.heap.size v1 x := hby.trans (hyx.mono hby.size)
  by_cases hbf1 : bad2 p0 p1 p2 p3 a b c
  case pos =>
   have ek : kf = 370 := by rw [HKF.out]; unfold lastC; exact if_pos hbf1
   subst ek
   have hr1 := HV1.out.2.2.1
   have hrO : x.heap[(w.heap.size + 1)]? = some (.cells #[.bool false,.bool false,.string ⟨#[]⟩,.bool false,.string ⟨#[]⟩,.bool false,.string ⟨#[]⟩,.bool false,.string ⟨#[]⟩,.bool false,.bool false,.string ⟨#[]⟩,.bool false,.string ⟨#[]⟩,.bool false,.string ⟨#[]⟩,.bool false,.string ⟨#[]⟩,.bool false,.bool false,.string ⟨#[]⟩,.bool false,.string ⟨#[]⟩,.bool false,.string ⟨#[]⟩,.bool false,.string ⟨#[]⟩] 37 (0,0)) := (hvx.block _ (Array.getElem?_eq_some_iff.1 hr1).1).trans hr1
   have HR := Lib.hid (faces_370 HKV.out (.inr (.inr (.inr (.inr (.inl hbf1))))))
   have hbz := HV1.out.2.2.2.1.trans (hvx.mono HV1.out.2.2.2.1.size)
   rw [hx] at hrO hbz
   have HBz := Lib.hid hbz
   clear hbz hr1 hyx hvx hby hp hx
   go_wp2_with (first
    | (refine Go.Great.wpList_buildTo rfl 37 _ rfl (some 179) rfl #[.bool false,.bool false,.string ⟨#[]⟩,.bool false,.string ⟨#[]⟩,.bool false,.string ⟨#[]⟩,.bool false,.string ⟨#[]⟩,.bool false,.bool false,.string ⟨#[]⟩,.bool false,.string ⟨#[]⟩,.bool false,.string ⟨#[]⟩,.bool false,.string ⟨#[]⟩,.bool false,.bool false,.string ⟨#[]⟩,.bool false,.string ⟨#[]⟩,.bool false,.string ⟨#[]⟩,.bool false,.string ⟨#[]⟩] (by kernel_rfl) ?_)
    | (refine wpList_store_row rfl 37 _ _ rfl (w.heap.size + 1) #[.bool false,.bool false,.string ⟨#[]⟩,.bool false,.string ⟨#[]⟩,.bool false,.string ⟨#[]⟩,.bool false,.string ⟨#[]⟩,.bool false,.bool false,.string ⟨#[]⟩,.bool false,.string ⟨#[]⟩,.bool false,.string ⟨#[]⟩,.bool false,.string ⟨#[]⟩,.bool false,.bool false,.string ⟨#[]⟩,.bool false,.string ⟨#[]⟩,.bool false,.string ⟨#[]⟩,.bool false,.string ⟨#[]⟩] rfl rfl 37 _ hrO (by kernel_rfl) (by kernel_rfl) (by kernel_rfl) ?_))
   have hres := setRow_heap _ (w.heap.size + 1) _ #[.bool false,.bool false,.string ⟨#[]⟩,.bool false,.string ⟨#[]⟩,.bool false,.string ⟨#[]⟩,.bool false,.string ⟨#[]⟩,.bool false,.bool false,.string ⟨#[]⟩,.bool false,.string ⟨#[]⟩,.bool false,.string ⟨#[]⟩,.bool false,.string ⟨#[]⟩,.bool false,.bool false,.string ⟨#[]⟩,.bool false,.string ⟨#[]⟩,.bool false,.string ⟨#[]⟩,.bool false,.string ⟨#[]⟩] _ _ hrO
   refine bodyPost_ret (v := .tuple #[.agg #[.bool false,.bool false,.string ⟨#[]⟩,.bool false,.string ⟨#[]⟩,.bool false,.string ⟨#[]⟩,.bool false,.string ⟨#[]⟩,.bool false,.bool false,.string ⟨#[]⟩,.bool false,.string ⟨#[]⟩,.bool false,.string ⟨#[]⟩,.bool false,.string ⟨#[]⟩,.bool false,.bool false,.string ⟨#[]⟩,.bool false,.string ⟨#[]⟩,.bool false,.string ⟨#[]⟩,.bool false,.string ⟨#[]⟩],.int .i64 370]) (results_cell_tmp Tryz.results16 _ _ (w.heap.size + 1) 37 _ (0,0) _ _ (by rfl) (by rfl) hres Tryz.underlying37 rfl (by kernel_rfl)) rfl ⟨by rw [HR.out.1,HR.out.2]; rfl,below_setRow HBz.out (by omega) _⟩
  have ek : kf = 0 := by rw [HKF.out]; unfold lastC; exact if_neg hbf1
  subst ek
  have hpq : PQ (lastX (ptX p2) (ptY p2) (cX p0 p1 p2 a b) (cY p0 p1 p2 a b) (cX p0 p2 p3 b c) (cY p0 p2 p3 b c) a c) (lastY (ptX p2) (ptY p2) (cX p0 p1 p2 a b) (cY p0 p1 p2 a b) (cX p0 p2 p3 b c) (cY p0 p2 p3 b c) a c) (.agg #[.pointer d1,.pointer d2,.pointer d3,.pointer d4]) x NoA := Fact.Keeps.below (PQ.keeps _ _) hyx (hp.elim (fun h => absurd h.1 hbf1) (fun h => h.2))
  have zz : ZL (lastX (ptX p2) (ptY p2) (cX p0 p1 p2 a b) (cY p0 p1 p2 a b) (cX p0 p2 p3 b c) (cY p0 p2 p3 b c) a c) 200000200 ∧ ZL (lastY (ptX p2) (ptY p2) (cX p0 p1 p2 a b) (cY p0 p1 p2 a b) (cX p0 p2 p3 b c) (cY p0 p2 p3 b c) a c) 200000200 := ZL_last (k := 1000000) ((HL.out.2.2.1).mono (by decide)) ((HL.out.2.2.2.2.2.2.1).mono (by decide)) ((HZ.out.1).mono (by decide)) ((HZ.out.2.1).mono (by decide)) ((HZ.out.2.2.2.2.1).mono (by decide)) ((HZ.out.2.2.2.2.2).mono (by decide)) ((HL.out.2.2.2.2.2.2.2.2.1).mono (by decide)) ((HL.out.2.2.2.2.2.2.2.2.2.2).mono (by decide))
  have hpp := PPoint_any _ _ _ NoA x hpq 200000200 200000200 zz.1 zz.2 (by decide)
  rw [(face2_out HN.out.1 HN.out.2.1 HN.out.2.2 hb1 hb2).1,(face2_out HN.out.1 HN.out.2.1 HN.out.2.2 hb1 hb2).2,HO.out.1,HO.out.2] at hpp
  rw [hx] at hpp
  have HPP := Lib.hid hpp
  have HVX := Lib.hid hvx
  have HX := Lib.hid hx
  clear hpp zz hpq hp hby hyx hvx hx HKF
  go_wp2_with fail
  refine HPP.out.mono ?_
  rintro e z ⟨rfl,hbz⟩
  rw [← HX.out] at hbz
  have hvz : Below v1.heap.size v1 z := HVX.out.trans (hbz.mono HVX.out.size)
  have hg2 : z.heap[(w.heap.size + 2)]? = some (.cells #[.bool oi,.bool on1,.string os1,.bool on2,.string os2,.bool on3,.string os3,.bool on4,.string os4,.bool false,.bool false,.string ⟨#[]⟩,.bool false,.string ⟨#[]⟩,.bool false,.string ⟨#[]⟩,.bool false,.string ⟨#[]⟩,.bool false,.bool false,.string ⟨#[]⟩,.bool false,.string ⟨#[]⟩,.bool false,.string ⟨#[]⟩,.bool false,.string ⟨#[]⟩] 37 (0,0)) := (hvz.block _ (Array.getElem?_eq_some_iff.1 HV1.out.2.1).1).trans HV1.out.2.1
  have yy0 := cell_at (o := 9) hg2 rfl
  have yy1 := cell_at (o := 10) hg2 rfl
  have yy2 := cell_at (o := 11) hg2 rfl
  have yy3 := cell_at (o := 12) hg2 rfl
  have yy4 := cell_at (o := 13) hg2 rfl
  have yy5 := cell_at (o := 14) hg2 rfl
  have yy6 := cell_at (o := 15) hg2 rfl
  have yy7 := cell_at (o := 16) hg2 rfl
  have yy8 := cell_at (o := 17) hg2 rfl
  obtain ⟨v2,hv⟩ : ∃ v,v = ((((((((z.setCell ⟨(w.heap.size + 2),9,none⟩ (.bool oi)).setCell ⟨(w.heap.size + 2),10,none⟩ (.bool on1)).setCell ⟨(w.heap.size + 2),11,none⟩ (.string os1)).setCell ⟨(w.heap.size + 2),12,none⟩ (.bool on2)).setCell ⟨(w.heap.size + 2),13,none⟩ (.string os2)).setCell ⟨(w.heap.size + 2),14,none⟩ (.bool on3)).setCell ⟨(w.heap.size + 2),15,none⟩ (.string os3)).setCell ⟨(w.heap.size + 2),16,none⟩ (.bool on4)).setCell ⟨(w.heap.size + 2),17,none⟩ (.string os4) := ⟨_,rfl⟩
  have mB : m ≠ (w.heap.size + 2) := by have h1 := HM.out.2.1; have h2 := HV.out.2.2.1; omega
  have nm : v2.heap[m]? = some (.cells #[.pointer c0,.pointer c1,.pointer c2,.pointer c3,.pointer c4,.pointer c5,.pointer c6,.pointer c7,.pointer c8,.pointer c9,.pointer c10,.pointer c11,.pointer c12,.pointer c13,.pointer c14,.pointer c15,.pointer c16,.pointer c17,.pointer c18,.pointer c19,.pointer c20,.pointer c21,.pointer c22,.pointer c23,.pointer c24,.pointer c25,.pointer c26,.pointer c27,.pointer c28,.pointer c29,.pointer c30,.pointer c31,.pointer c32,.pointer c33] 89 (0,0)) := by rw [hv,other9 mB]; exact (hvz.block _ (Array.getElem?_eq_some_iff.1 HV1.out.1).1).trans HV1.out.1
  have n2 : v2.heap[(w.heap.size + 2)]? = some (.cells #[.bool oi,.bool on1,.string os1,.bool on2,.string os2,.bool on3,.string os3,.bool on4,.string os4,.bool oi,.bool on1,.string os1,.bool on2,.string os2,.bool on3,.string os3,.bool on4,.string os4,.bool false,.bool false,.string ⟨#[]⟩,.bool false,.string ⟨#[]⟩,.bool false,.string ⟨#[]⟩,.bool false,.string ⟨#[]⟩] 37 (0,0)) := by rw [hv]; exact set9_part hg2 (by kernel_rfl)
  have n1 : v2.heap[(w.heap.size + 1)]? = some (.cells #[.bool false,.bool false,.string ⟨#[]⟩,.bool false,.string ⟨#[]⟩,.bool false,.string ⟨#[]⟩,.bool false,.string ⟨#[]⟩,.bool false,.bool false,.string ⟨#[]⟩,.bool false,.string ⟨#[]⟩,.bool false,.string ⟨#[]⟩,.bool false,.string ⟨#[]⟩,.bool false,.bool false,.string ⟨#[]⟩,.bool false,.string ⟨#[]⟩,.bool false,.string ⟨#[]⟩,.bool false,.string ⟨#[]⟩] 37 (0,0)) := by rw [hv,other9 (by omega)]; exact (hvz.block _ (Array.getElem?_eq_some_iff.1 HV1.out.2.2.1).1).trans HV1.out.2.2.1
  have nb : Below w.heap.size w v2 := by rw [hv]; exact below9 (HV1.out.2.2.2.1.trans (hvz.mono HV1.out.2.2.2.1.size)) (by omega)
  have j0 := keep9 (CQ.keeps _) (o0 := 9) (o1 := 10) (o2 := 11) (o3 := 12) (o4 := 13) (o5 := 14) (o6 := 15) (o7 := 16) (o8 := 17) (x0 := .bool oi) (x1 := .bool on1) (x2 := .string os1) (x3 := .bool on2) (x4 := .string os2) (x5 := .bool on3) (x6 := .string os3) (x7 := .bool on4) (x8 := .string os4) HM.out.2.2.1 (Fact.Keeps.below (CQ.keeps _) hvz HV1.out.2.2.2.2.1)
  rw [← hv] at j0
  have j1 := keep9 (CQ.keeps _) (o0 := 9) (o1 := 10) (o2 := 11) (o3 := 12) (o4 := 13) (o5 := 14) (o6 := 15) (o7 := 16) (o8 := 17) (x0 := .bool oi) (x1 := .bool on1) (x2 := .string os1) (x3 := .bool on2) (x4 := .string os2) (x5 := .bool on3) (x6 := .string os3) (x7 := .bool on4) (x8 := .string os4) HM.out.2.2.1 (Fact.Keeps.below (CQ.keeps _) hvz HV1.out.2.2.2.2.2.1)
  rw [← hv] at j1
  have j2 := keep9 (CQ.keeps _) (o0 := 9) (o1 := 10) (o2 := 11) (o3 := 12) (o4 := 13) (o5 := 14) (o6 := 15) (o7 := 16) (o8 := 17) (x0 := .bool oi) (x1 := .bool on1) (x2 := .string os1) (x3 := .bool on2) (x4 := .string os2) (x5 := .bool on3) (x6 := .string os3) (x7 := .bool on4) (x8 := .string os4) HM.out.2.2.1 (Fact.Keeps.below (CQ.keeps _) hvz HV1.out.2.2.2.2.2.2.1)
  rw [← hv] at j2
  have j3 := keep9 (PQ.keeps _ _) (o0 := 9) (o1 := 10) (o2 := 11) (o3 := 12) (o4 := 13) (o5 := 14) (o6 := 15) (o7 := 16) (o8 := 17) (x0 := .bool oi) (x1 := .bool on1) (x2 := .string os1) (x3 := .bool on2) (x4 := .string os2) (x5 := .bool on3) (x6 := .string os3) (x7 := .bool on4) (x8 := .string os4) HM.out.2.2.1 (Fact.Keeps.below (PQ.keeps _ _) hvz HV1.out.2.2.2.2.2.2.2.1)
  rw [← hv] at j3
  have j4 := keep9 (PQ.keeps _ _) (o0 := 9) (o1 := 10) (o2 := 11) (o3 := 12) (o4 := 13) (o5 := 14) (o6 := 15) (o7 := 16) (o8 := 17) (x0 := .bool oi) (x1 := .bool on1) (x2 := .string os1) (x3 := .bool on2) (x4 := .string os2) (x5 := .bool on3) (x6 := .string os3) (x7 := .bool on4) (x8 := .string os4) HM.out.2.2.1 (Fact.Keeps.below (PQ.keeps _ _) hvz HV1.out.2.2.2.2.2.2.2.2.1)
  rw [← hv] at j4
  have j5 := keep9 (PQ.keeps _ _) (o0 := 9) (o1 := 10) (o2 := 11) (o3 := 12) (o4 := 13) (o5 := 14) (o6 := 15) (o7 := 16) (o8 := 17) (x0 := .bool oi) (x1 := .bool on1) (x2 := .string os1) (x3 := .bool on2) (x4 := .string os2) (x5 := .bool on3) (x6 := .string os3) (x7 := .bool on4) (x8 := .string os4) HM.out.2.2.1 (Fact.Keeps.below (PQ.keeps _ _) hvz HV1.out.2.2.2.2.2.2.2.2.2.1)
  rw [← hv] at j5
  have j6 := keep9 (PQ.keeps _ _) (o0 := 9) (o1 := 10) (o2 := 11) (o3 := 12) (o4 := 13) (o5 := 14) (o6 := 15) (o7 := 16) (o8 := 17) (x0 := .bool oi) (x1 := .bool on1) (x2 := .string os1) (x3 := .bool on2) (x4 := .string os2) (x5 := .bool on3) (x6 := .string os3) (x7 := .bool on4) (x8 := .string os4) HM.out.2.2.1 (Fact.Keeps.below (PQ.keeps _ _) hvz HV1.out.2.2.2.2.2.2.2.2.2.2.1)
  rw [← hv] at j6
  have j7 := keep9 (PQ.keeps _ _) (o0 := 9) (o1 := 10) (o2 := 11) (o3 := 12) (o4 := 13) (o5 := 14) (o6 := 15) (o7 := 16) (o8 := 17) (x0 := .bool oi) (x1 := .bool on1) (x2 := .string os1) (x3 := .bool on2) (x4 := .string os2) (x5 := .bool on3) (x6 := .string os3) (x7 := .bool on4) (x8 := .string os4) HM.out.2.2.1 (Fact.Keeps.below (PQ.keeps _ _) hvz HV1.out.2.2.2.2.2.2.2.2.2.2.2.1)
  rw [← hv] at j7
  have j8 := keep9 (PQ.keeps _ _) (o0 := 9) (o1 := 10) (o2 := 11) (o3 := 12) (o4 := 13) (o5 := 14) (o6 := 15) (o7 := 16) (o8 := 17) (x0 := .bool oi) (x1 := .bool on1) (x2 := .string os1) (x3 := .bool on2) (x4 := .string os2) (x5 := .bool on3) (x6 := .string os3) (x7 := .bool on4) (x8 := .string os4) HM.out.2.2.1 (Fact.Keeps.below (PQ.keeps _ _) hvz HV1.out.2.2.2.2.2.2.2.2.2.2.2.2)
  rw [← hv] at j8
  have HV2 := Lib.hid (And.intro nm (And.intro n2 (And.intro n1 (And.intro nb (And.intro j0 (And.intro j1 (And.intro j2 (And.intro j3 (And.intro j4 (And.intro j5 (And.intro j6 (And.intro j7 j8))))))))))))
  clear j8 j7 j6 j5 j4 j3 j2 j1 j0 nb n1 n2 nm mB hg2 hvz hbz HPP HVX HX HV1
  go_wp2_with fail
  clear yy0 yy1 yy2 yy3 yy4 yy5 yy6 yy7 yy8
  rw [← hv]
  clear hv
  have ix : ∀ w,(Instr.index 94 (.agg #[.func (.func 41) #[.pointer (some ⟨m,0,none⟩)] #[],.func (.func 42) #[.pointer (some ⟨m,0,none⟩)] #[],.func (.func 43) #[.pointer (some ⟨m,0,none⟩)] #[]]) (.int .i64 2)).run Tryz.prog w = .ok (.func (.func 43) #[.pointer (some ⟨m,0,none⟩)] #[]) w := fun _ => by kernel_rfl
  rw [rounds_succ]
  go_wp2_with fail
  clear ix
  have HCF := Lib.hid (third_any m c0 c1 c2 c3 c4 c5 c6 c7 c8 c9 c10 c11 c12 c13 c14 c15 c16 c17 c18 c19 c20 c21 c22 c23 c24 c25 c26 c27 c28 c29 c30 c31 c32 c33 v2 HV2.out.1 (ptX p3) (ptY p3) (cX p0 p1 p3 a c) (cY p0 p1 p3 a c) (cX p0 p2 p3 b c) (cY p0 p2 p3 b c) a b (less_of (PQ.keeps _ _) HV2.out.2.2.2.2.2.2.2.2.2.1 (fun b h => h.elim)) (less_of (PQ.keeps _ _) HV2.out.2.2.2.2.2.2.2.2.2.2.2.1 (fun b h => h.elim)) (less_of (PQ.keeps _ _) HV2.out.2.2.2.2.2.2.2.2.2.2.2.2 (fun b h => h.elim)) (less_of (CQ.keeps _) HV2.out.2.2.2.2.1 (fun b h => h.elim)) (less_of (CQ.keeps _) HV2.out.2.2.2.2.2.1 (fun b h => h.elim)) ((HL.out.2.2.2.1).mono (by decide)) ((HL.out.2.2.2.2.2.2.2.1).mono (by decide)) ((HZ.out.2.2.1).mono (by decide)) ((HZ.out.2.2.2.1).mono (by decide)) ((HZ.out.2.2.2.2.1).mono (by decide)) ((HZ.out.2.2.2.2.2).mono (by decide)) ((HL.out.2.2.2.2.2.2.2.2.1).mono (by decide)) ((HL.out.2.2.2.2.2.2.2.2.2.1).mono (by decide)))
  refine HCF.out.mono ?_
  clear HCF
  rintro e y ⟨u,rfl,hby,u',rfl,hp⟩
  obtain ⟨d1,d2,d3,d4,rfl⟩ := pz_agg hp
  obtain ⟨kf,hkf⟩ : ∃ k,k = lastC (ptX p3) (ptY p3) (cX p0 p1 p3 a c) (cY p0 p1 p3 a c) (cX p0 p2 p3 b c) (cY p0 p2 p3 b c) := ⟨_,rfl⟩
  rw [← hkf]
  have HKF := Lib.hid hkf
  clear hkf
  obtain ⟨x,hx⟩ : ∃ x,x = y.alloc (.cells #[.pointer d1,.pointer d2,.pointer d3,.pointer d4] 86) := ⟨_,rfl⟩
  have hyx : Below y.heap.size y x := by rw [hx]; exact br.alloc (Nat.le_refl _) _
  have hvx : Below v2.heap.size v2 x := hby.trans (hyx.mono hby.size)
  by_cases hbf2 : bad3 p0 p1 p2 p3 a b c
  case pos =>
   have ek : kf = 370 := by rw [HKF.out]; unfold lastC; exact if_pos hbf2
   subst ek
   have hr1 := HV2.out.2.2.1
   have hrO : x.heap[(w.heap.size + 1)]? = some (.cells #[.bool false,.bool false,.string ⟨#[]⟩,.bool false,.string ⟨#[]⟩,.bool false,.string ⟨#[]⟩,.bool false,.string ⟨#[]⟩,.bool false,.bool false,.string ⟨#[]⟩,.bool false,.string ⟨#[]⟩,.bool false,.string ⟨#[]⟩,.bool false,.string ⟨#[]⟩,.bool false,.bool false,.string ⟨#[]⟩,.bool false,.string ⟨#[]⟩,.bool false,.string ⟨#[]⟩,.bool false,.string ⟨#[]⟩] 37 (0,0)) := (hvx.block _ (Array.getElem?_eq_some_iff.1 hr1).1).trans hr1
   have HR := Lib.hid (faces_370 HKV.out (.inr (.inr (.inr (.inr (.inr hbf2))))))
   have hbz := HV2.out.2.2.2.1.trans (hvx.mono HV2.out.2.2.2.1.size)
   rw [hx] at hrO hbz
   have HBz := Lib.hid hbz
   clear hbz hr1 hyx hvx hby hp hx
   go_wp2_with (first
    | (refine Go.Great.wpList_buildTo rfl 37 _ rfl (some 179) rfl #[.bool false,.bool false,.string ⟨#[]⟩,.bool false,.string ⟨#[]⟩,.bool false,.string ⟨#[]⟩,.bool false,.string ⟨#[]⟩,.bool false,.bool false,.string ⟨#[]⟩,.bool false,.string ⟨#[]⟩,.bool false,.string ⟨#[]⟩,.bool false,.string ⟨#[]⟩,.bool false,.bool false,.string ⟨#[]⟩,.bool false,.string ⟨#[]⟩,.bool false,.string ⟨#[]⟩,.bool false,.string ⟨#[]⟩] (by kernel_rfl) ?_)
    | (refine wpList_store_row rfl 37 _ _ rfl (w.heap.size + 1) #[.bool false,.bool false,.string ⟨#[]⟩,.bool false,.string ⟨#[]⟩,.bool false,.string ⟨#[]⟩,.bool false,.string ⟨#[]⟩,.bool false,.bool false,.string ⟨#[]⟩,.bool false,.string ⟨#[]⟩,.bool false,.string ⟨#[]⟩,.bool false,.string ⟨#[]⟩,.bool false,.bool false,.string ⟨#[]⟩,.bool false,.string ⟨#[]⟩,.bool false,.string ⟨#[]⟩,.bool false,.string ⟨#[]⟩] rfl rfl 37 _ hrO (by kernel_rfl) (by kernel_rfl) (by kernel_rfl) ?_))
   have hres := setRow_heap _ (w.heap.size + 1) _ #[.bool false,.bool false,.string ⟨#[]⟩,.bool false,.string ⟨#[]⟩,.bool false,.string ⟨#[]⟩,.bool false,.string ⟨#[]⟩,.bool false,.bool false,.string ⟨#[]⟩,.bool false,.string ⟨#[]⟩,.bool false,.string ⟨#[]⟩,.bool false,.string ⟨#[]⟩,.bool false,.bool false,.string ⟨#[]⟩,.bool false,.string ⟨#[]⟩,.bool false,.string ⟨#[]⟩,.bool false,.string ⟨#[]⟩] _ _ hrO
   refine bodyPost_ret (v := .tuple #[.agg #[.bool false,.bool false,.string ⟨#[]⟩,.bool false,.string ⟨#[]⟩,.bool false,.string ⟨#[]⟩,.bool false,.string ⟨#[]⟩,.bool false,.bool false,.string ⟨#[]⟩,.bool false,.string ⟨#[]⟩,.bool false,.string ⟨#[]⟩,.bool false,.string ⟨#[]⟩,.bool false,.bool false,.string ⟨#[]⟩,.bool false,.string ⟨#[]⟩,.bool false,.string ⟨#[]⟩,.bool false,.string ⟨#[]⟩],.int .i64 370]) (results_cell_tmp Tryz.results16 _ _ (w.heap.size + 1) 37 _ (0,0) _ _ (by rfl) (by rfl) hres Tryz.underlying37 rfl (by kernel_rfl)) rfl ⟨by rw [HR.out.1,HR.out.2]; rfl,below_setRow HBz.out (by omega) _⟩
  have ek : kf = 0 := by rw [HKF.out]; unfold lastC; exact if_neg hbf2
  subst ek
  have hpq : PQ (lastX (ptX p3) (ptY p3) (cX p0 p1 p3 a c) (cY p0 p1 p3 a c) (cX p0 p2 p3 b c) (cY p0 p2 p3 b c) a b) (lastY (ptX p3) (ptY p3) (cX p0 p1 p3 a c) (cY p0 p1 p3 a c) (cX p0 p2 p3 b c) (cY p0 p2 p3 b c) a b) (.agg #[.pointer d1,.pointer d2,.pointer d3,.pointer d4]) x NoA := Fact.Keeps.below (PQ.keeps _ _) hyx (hp.elim (fun h => absurd h.1 hbf2) (fun h => h.2))
  have zz : ZL (lastX (ptX p3) (ptY p3) (cX p0 p1 p3 a c) (cY p0 p1 p3 a c) (cX p0 p2 p3 b c) (cY p0 p2 p3 b c) a b) 200000200 ∧ ZL (lastY (ptX p3) (ptY p3) (cX p0 p1 p3 a c) (cY p0 p1 p3 a c) (cX p0 p2 p3 b c) (cY p0 p2 p3 b c) a b) 200000200 := ZL_last (k := 1000000) ((HL.out.2.2.2.1).mono (by decide)) ((HL.out.2.2.2.2.2.2.2.1).mono (by decide)) ((HZ.out.2.2.1).mono (by decide)) ((HZ.out.2.2.2.1).mono (by decide)) ((HZ.out.2.2.2.2.1).mono (by decide)) ((HZ.out.2.2.2.2.2).mono (by decide)) ((HL.out.2.2.2.2.2.2.2.2.1).mono (by decide)) ((HL.out.2.2.2.2.2.2.2.2.2.1).mono (by decide))
  have hpp := PPoint_any _ _ _ NoA x hpq 200000200 200000200 zz.1 zz.2 (by decide)
  rw [(face3_out HN.out.1 HN.out.2.1 HN.out.2.2 hb1 hb2).1,(face3_out HN.out.1 HN.out.2.1 HN.out.2.2 hb1 hb2).2,HO.out.1,HO.out.2] at hpp
  rw [hx] at hpp
  have HPP := Lib.hid hpp
  have HVX := Lib.hid hvx
  have HX := Lib.hid hx
  clear hpp zz hpq hp hby hyx hvx hx HKF
  go_wp2_with fail
  refine HPP.out.mono ?_
  rintro e z ⟨rfl,hbz⟩
  rw [← HX.out] at hbz
  have hvz : Below v2.heap.size v2 z := HVX.out.trans (hbz.mono HVX.out.size)
  have hg2 : z.heap[(w.heap.size + 2)]? = some (.cells #[.bool oi,.bool on1,.string os1,.bool on2,.string os2,.bool on3,.string os3,.bool on4,.string os4,.bool oi,.bool on1,.string os1,.bool on2,.string os2,.bool on3,.string os3,.bool on4,.string os4,.bool false,.bool false,.string ⟨#[]⟩,.bool false,.string ⟨#[]⟩,.bool false,.string ⟨#[]⟩,.bool false,.string ⟨#[]⟩] 37 (0,0)) := (hvz.block _ (Array.getElem?_eq_some_iff.1 HV2.out.2.1).1).trans HV2.out.2.1
  have yy0 := cell_at (o := 18) hg2 rfl
  have yy1 := cell_at (o := 19) hg2 rfl
  have yy2 := cell_at (o := 20) hg2 rfl
  have yy3 := cell_at (o := 21) hg2 rfl
  have yy4 := cell_at (o := 22) hg2 rfl
  have yy5 := cell_at (o := 23) hg2 rfl
  have yy6 := cell_at (o := 24) hg2 rfl
  have yy7 := cell_at (o := 25) hg2 rfl
  have yy8 := cell_at (o := 26) hg2 rfl
  obtain ⟨v3,hv⟩ : ∃ v,v = ((((((((z.setCell ⟨(w.heap.size + 2),18,none⟩ (.bool oi)).setCell ⟨(w.heap.size + 2),19,none⟩ (.bool on1)).setCell ⟨(w.heap.size + 2),20,none⟩ (.string os1)).setCell ⟨(w.heap.size + 2),21,none⟩ (.bool on2)).setCell ⟨(w.heap.size + 2),22,none⟩ (.string os2)).setCell ⟨(w.heap.size + 2),23,none⟩ (.bool on3)).setCell ⟨(w.heap.size + 2),24,none⟩ (.string os3)).setCell ⟨(w.heap.size + 2),25,none⟩ (.bool on4)).setCell ⟨(w.heap.size + 2),26,none⟩ (.string os4) := ⟨_,rfl⟩
  have mB : m ≠ (w.heap.size + 2) := by have h1 := HM.out.2.1; have h2 := HV.out.2.2.1; omega
  have nm : v3.heap[m]? = some (.cells #[.pointer c0,.pointer c1,.pointer c2,.pointer c3,.pointer c4,.pointer c5,.pointer c6,.pointer c7,.pointer c8,.pointer c9,.pointer c10,.pointer c11,.pointer c12,.pointer c13,.pointer c14,.pointer c15,.pointer c16,.pointer c17,.pointer c18,.pointer c19,.pointer c20,.pointer c21,.pointer c22,.pointer c23,.pointer c24,.pointer c25,.pointer c26,.pointer c27,.pointer c28,.pointer c29,.pointer c30,.pointer c31,.pointer c32,.pointer c33] 89 (0,0)) := by rw [hv,other9 mB]; exact (hvz.block _ (Array.getElem?_eq_some_iff.1 HV2.out.1).1).trans HV2.out.1
  have n2 : v3.heap[(w.heap.size + 2)]? = some (.cells #[.bool oi,.bool on1,.string os1,.bool on2,.string os2,.bool on3,.string os3,.bool on4,.string os4,.bool oi,.bool on1,.string os1,.bool on2,.string os2,.bool on3,.string os3,.bool on4,.string os4,.bool oi,.bool on1,.string os1,.bool on2,.string os2,.bool on3,.string os3,.bool on4,.string os4] 37 (0,0)) := by rw [hv]; exact set9_part hg2 (by kernel_rfl)
  have n1 : v3.heap[(w.heap.size + 1)]? = some (.cells #[.bool false,.bool false,.string ⟨#[]⟩,.bool false,.string ⟨#[]⟩,.bool false,.string ⟨#[]⟩,.bool false,.string ⟨#[]⟩,.bool false,.bool false,.string ⟨#[]⟩,.bool false,.string ⟨#[]⟩,.bool false,.string ⟨#[]⟩,.bool false,.string ⟨#[]⟩,.bool false,.bool false,.string ⟨#[]⟩,.bool false,.string ⟨#[]⟩,.bool false,.string ⟨#[]⟩,.bool false,.string ⟨#[]⟩] 37 (0,0)) := by rw [hv,other9 (by omega)]; exact (hvz.block _ (Array.getElem?_eq_some_iff.1 HV2.out.2.2.1).1).trans HV2.out.2.2.1
  have nb : Below w.heap.size w v3 := by rw [hv]; exact below9 (HV2.out.2.2.2.1.trans (hvz.mono HV2.out.2.2.2.1.size)) (by omega)
  have j0 := keep9 (CQ.keeps _) (o0 := 18) (o1 := 19) (o2 := 20) (o3 := 21) (o4 := 22) (o5 := 23) (o6 := 24) (o7 := 25) (o8 := 26) (x0 := .bool oi) (x1 := .bool on1) (x2 := .string os1) (x3 := .bool on2) (x4 := .string os2) (x5 := .bool on3) (x6 := .string os3) (x7 := .bool on4) (x8 := .string os4) HM.out.2.2.1 (Fact.Keeps.below (CQ.keeps _) hvz HV2.out.2.2.2.2.1)
  rw [← hv] at j0
  have j1 := keep9 (CQ.keeps _) (o0 := 18) (o1 := 19) (o2 := 20) (o3 := 21) (o4 := 22) (o5 := 23) (o6 := 24) (o7 := 25) (o8 := 26) (x0 := .bool oi) (x1 := .bool on1) (x2 := .string os1) (x3 := .bool on2) (x4 := .string os2) (x5 := .bool on3) (x6 := .string os3) (x7 := .bool on4) (x8 := .string os4) HM.out.2.2.1 (Fact.Keeps.below (CQ.keeps _) hvz HV2.out.2.2.2.2.2.1)
  rw [← hv] at j1
  have j2 := keep9 (CQ.keeps _) (o0 := 18) (o1 := 19) (o2 := 20) (o3 := 21) (o4 := 22) (o5 := 23) (o6 := 24) (o7 := 25) (o8 := 26) (x0 := .bool oi) (x1 := .bool on1) (x2 := .string os1) (x3 := .bool on2) (x4 := .string os2) (x5 := .bool on3) (x6 := .string os3) (x7 := .bool on4) (x8 := .string os4) HM.out.2.2.1 (Fact.Keeps.below (CQ.keeps _) hvz HV2.out.2.2.2.2.2.2.1)
  rw [← hv] at j2
  have j3 := keep9 (PQ.keeps _ _) (o0 := 18) (o1 := 19) (o2 := 20) (o3 := 21) (o4 := 22) (o5 := 23) (o6 := 24) (o7 := 25) (o8 := 26) (x0 := .bool oi) (x1 := .bool on1) (x2 := .string os1) (x3 := .bool on2) (x4 := .string os2) (x5 := .bool on3) (x6 := .string os3) (x7 := .bool on4) (x8 := .string os4) HM.out.2.2.1 (Fact.Keeps.below (PQ.keeps _ _) hvz HV2.out.2.2.2.2.2.2.2.1)
  rw [← hv] at j3
  have j4 := keep9 (PQ.keeps _ _) (o0 := 18) (o1 := 19) (o2 := 20) (o3 := 21) (o4 := 22) (o5 := 23) (o6 := 24) (o7 := 25) (o8 := 26) (x0 := .bool oi) (x1 := .bool on1) (x2 := .string os1) (x3 := .bool on2) (x4 := .string os2) (x5 := .bool on3) (x6 := .string os3) (x7 := .bool on4) (x8 := .string os4) HM.out.2.2.1 (Fact.Keeps.below (PQ.keeps _ _) hvz HV2.out.2.2.2.2.2.2.2.2.1)
  rw [← hv] at j4
  have j5 := keep9 (PQ.keeps _ _) (o0 := 18) (o1 := 19) (o2 := 20) (o3 := 21) (o4 := 22) (o5 := 23) (o6 := 24) (o7 := 25) (o8 := 26) (x0 := .bool oi) (x1 := .bool on1) (x2 := .string os1) (x3 := .bool on2) (x4 := .string os2) (x5 := .bool on3) (x6 := .string os3) (x7 := .bool on4) (x8 := .string os4) HM.out.2.2.1 (Fact.Keeps.below (PQ.keeps _ _) hvz HV2.out.2.2.2.2.2.2.2.2.2.1)
  rw [← hv] at j5
  have j6 := keep9 (PQ.keeps _ _) (o0 := 18) (o1 := 19) (o2 := 20) (o3 := 21) (o4 := 22) (o5 := 23) (o6 := 24) (o7 := 25) (o8 := 26) (x0 := .bool oi) (x1 := .bool on1) (x2 := .string os1) (x3 := .bool on2) (x4 := .string os2) (x5 := .bool on3) (x6 := .string os3) (x7 := .bool on4) (x8 := .string os4) HM.out.2.2.1 (Fact.Keeps.below (PQ.keeps _ _) hvz HV2.out.2.2.2.2.2.2.2.2.2.2.1)
  rw [← hv] at j6
  have j7 := keep9 (PQ.keeps _ _) (o0 := 18) (o1 := 19) (o2 := 20) (o3 := 21) (o4 := 22) (o5 := 23) (o6 := 24) (o7 := 25) (o8 := 26) (x0 := .bool oi) (x1 := .bool on1) (x2 := .string os1) (x3 := .bool on2) (x4 := .string os2) (x5 := .bool on3) (x6 := .string os3) (x7 := .bool on4) (x8 := .string os4) HM.out.2.2.1 (Fact.Keeps.below (PQ.keeps _ _) hvz HV2.out.2.2.2.2.2.2.2.2.2.2.2.1)
  rw [← hv] at j7
  have j8 := keep9 (PQ.keeps _ _) (o0 := 18) (o1 := 19) (o2 := 20) (o3 := 21) (o4 := 22) (o5 := 23) (o6 := 24) (o7 := 25) (o8 := 26) (x0 := .bool oi) (x1 := .bool on1) (x2 := .string os1) (x3 := .bool on2) (x4 := .string os2) (x5 := .bool on3) (x6 := .string os3) (x7 := .bool on4) (x8 := .string os4) HM.out.2.2.1 (Fact.Keeps.below (PQ.keeps _ _) hvz HV2.out.2.2.2.2.2.2.2.2.2.2.2.2)
  rw [← hv] at j8
  have HV3 := Lib.hid (And.intro nm (And.intro n2 (And.intro n1 (And.intro nb (And.intro j0 (And.intro j1 (And.intro j2 (And.intro j3 (And.intro j4 (And.intro j5 (And.intro j6 (And.intro j7 j8))))))))))))
  clear j8 j7 j6 j5 j4 j3 j2 j1 j0 nb n1 n2 nm mB hg2 hvz hbz HPP HVX HX HV2
  go_wp2_with fail
  clear yy0 yy1 yy2 yy3 yy4 yy5 yy6 yy7 yy8
  rw [← hv]
  clear hv)
 ·have hr1 := HV3.out.2.2.1
  have hr2 := HV3.out.2.1
  have HB3 := Lib.hid HV3.out.2.2.2.1
  have HR := Lib.hid (faces_in HKV.out (not_or.2 ⟨hb1,not_or.2 ⟨hb2,not_or.2 ⟨hb3,not_or.2 ⟨hbf0,not_or.2 ⟨hbf1,hbf2⟩⟩⟩⟩⟩) HO.out.2 HO.out.1)
  rw [rounds_succ]
  go_wp2_with (first
   | (refine wpList_load_row rfl 37 _ rfl (w.heap.size + 2) rfl 37 _ (0,0) _ hr2 Tryz.underlying37 rfl (by kernel_rfl) ?_)
   | (refine wpList_store_row rfl 37 _ _ rfl (w.heap.size + 1) #[.bool oi,.bool on1,.string os1,.bool on2,.string os2,.bool on3,.string os3,.bool on4,.string os4,.bool oi,.bool on1,.string os1,.bool on2,.string os2,.bool on3,.string os3,.bool on4,.string os4,.bool oi,.bool on1,.string os1,.bool on2,.string os2,.bool on3,.string os3,.bool on4,.string os4] rfl rfl 37 _ hr1 (by kernel_rfl) (by kernel_rfl) (by kernel_rfl) ?_))
  have hres := setRow_heap _ (w.heap.size + 1) _ #[.bool oi,.bool on1,.string os1,.bool on2,.string os2,.bool on3,.string os3,.bool on4,.string os4,.bool oi,.bool on1,.string os1,.bool on2,.string os2,.bool on3,.string os3,.bool on4,.string os4,.bool oi,.bool on1,.string os1,.bool on2,.string os2,.bool on3,.string os3,.bool on4,.string os4] _ _ hr1
  refine bodyPost_ret (v := .tuple #[.agg #[.bool oi,.bool on1,.string os1,.bool on2,.string os2,.bool on3,.string os3,.bool on4,.string os4,.bool oi,.bool on1,.string os1,.bool on2,.string os2,.bool on3,.string os3,.bool on4,.string os4,.bool oi,.bool on1,.string os1,.bool on2,.string os2,.bool on3,.string os3,.bool on4,.string os4],.int .i64 0]) (results_cell_tmp Tryz.results16 _ _ (w.heap.size + 1) 37 _ (0,0) _ _ (by rfl) (by rfl) hres Tryz.underlying37 rfl (by kernel_rfl)) rfl ⟨by rw [HR.out.1,HR.out.2],below_setRow HB3.out (by omega) _⟩
 ·have hr1 := HV3.out.2.2.1
  have hr2 := HV3.out.2.1
  have HB3 := Lib.hid HV3.out.2.2.2.1
  have HR := Lib.hid (faces_4 HKV.out (not_or.2 ⟨hb1,not_or.2 ⟨hb2,not_or.2 ⟨hb3,not_or.2 ⟨hbf0,not_or.2 ⟨hbf1,hbf2⟩⟩⟩⟩⟩) HO.out.2)
  rw [rounds_succ]
  go_wp2_with (first
   | (refine Go.Great.wpList_buildTo rfl 37 _ rfl (some 194) rfl #[.bool false,.bool false,.string ⟨#[]⟩,.bool false,.string ⟨#[]⟩,.bool false,.string ⟨#[]⟩,.bool false,.string ⟨#[]⟩,.bool false,.bool false,.string ⟨#[]⟩,.bool false,.string ⟨#[]⟩,.bool false,.string ⟨#[]⟩,.bool false,.string ⟨#[]⟩,.bool false,.bool false,.string ⟨#[]⟩,.bool false,.string ⟨#[]⟩,.bool false,.string ⟨#[]⟩,.bool false,.string ⟨#[]⟩] (by kernel_rfl) ?_)
   | (refine wpList_store_row rfl 37 _ _ rfl (w.heap.size + 1) #[.bool false,.bool false,.string ⟨#[]⟩,.bool false,.string ⟨#[]⟩,.bool false,.string ⟨#[]⟩,.bool false,.string ⟨#[]⟩,.bool false,.bool false,.string ⟨#[]⟩,.bool false,.string ⟨#[]⟩,.bool false,.string ⟨#[]⟩,.bool false,.string ⟨#[]⟩,.bool false,.bool false,.string ⟨#[]⟩,.bool false,.string ⟨#[]⟩,.bool false,.string ⟨#[]⟩,.bool false,.string ⟨#[]⟩] rfl rfl 37 _ hr1 (by kernel_rfl) (by kernel_rfl) (by kernel_rfl) ?_))
  have hres := setRow_heap _ (w.heap.size + 1) _ #[.bool false,.bool false,.string ⟨#[]⟩,.bool false,.string ⟨#[]⟩,.bool false,.string ⟨#[]⟩,.bool false,.string ⟨#[]⟩,.bool false,.bool false,.string ⟨#[]⟩,.bool false,.string ⟨#[]⟩,.bool false,.string ⟨#[]⟩,.bool false,.string ⟨#[]⟩,.bool false,.bool false,.string ⟨#[]⟩,.bool false,.string ⟨#[]⟩,.bool false,.string ⟨#[]⟩,.bool false,.string ⟨#[]⟩] _ _ hr1
  refine bodyPost_ret (v := .tuple #[.agg #[.bool false,.bool false,.string ⟨#[]⟩,.bool false,.string ⟨#[]⟩,.bool false,.string ⟨#[]⟩,.bool false,.string ⟨#[]⟩,.bool false,.bool false,.string ⟨#[]⟩,.bool false,.string ⟨#[]⟩,.bool false,.string ⟨#[]⟩,.bool false,.string ⟨#[]⟩,.bool false,.bool false,.string ⟨#[]⟩,.bool false,.string ⟨#[]⟩,.bool false,.string ⟨#[]⟩,.bool false,.string ⟨#[]⟩],.int .i64 4]) (results_cell_tmp Tryz.results16 _ _ (w.heap.size + 1) 37 _ (0,0) _ _ (by rfl) (by rfl) hres Tryz.underlying37 rfl (by kernel_rfl)) rfl ⟨by rw [HR.out.1,HR.out.2]; rfl,below_setRow HB3.out (by omega) _⟩
end Go.Proofs.YtepefgkihnjjaaaGreat
