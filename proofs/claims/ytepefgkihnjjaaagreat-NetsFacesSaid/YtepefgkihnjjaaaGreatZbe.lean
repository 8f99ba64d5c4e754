/- Laws for the walk. -/
import Derived.Test.YtepefgkihnjjaaaGreatZzz
import Derived.Test.YtepefgkihnjjaaaGreatZbb
import Derived.Test.YtepefgkihnjjaaaGreatZbd
set_option linter.unusedVariables false
namespace Go.Proofs.YtepefgkihnjjaaaGreat
open Go.RowKit Tr
set_option maxRecDepth 100000 in
set_option maxHeartbeats 12800000 in
theorem wide_any (b00 b01 b02 b03 b10 b11 b12 b13 b20 b21 b22 b23 b30 b31 b32 b33 b40 b41 b42 b43 b50 b51 b52 b53 b60 b61 b62 b63 : Bool) (r00 r01 r02 r03 r10 r11 r12 r13 r20 r21 r22 r23 r30 r31 r32 r33 r40 r41 r42 r43 r50 r51 r52 r53 r60 r61 r62 r63 : ByteArray) (b : Nat) (w : World) (hb : w.heap[b]? = some (.cells #[.bool b00,.string r00,.bool b01,.string r01,.bool b02,.string r02,.bool b03,.string r03,.bool b10,.string r10,.bool b11,.string r11,.bool b12,.string r12,.bool b13,.string r13,.bool b20,.string r20,.bool b21,.string r21,.bool b22,.string r22,.bool b23,.string r23,.bool b30,.string r30,.bool b31,.string r31,.bool b32,.string r32,.bool b33,.string r33,.bool b40,.string r40,.bool b41,.string r41,.bool b42,.string r42,.bool b43,.string r43,.bool b50,.string r50,.bool b51,.string r51,.bool b52,.string r52,.bool b53,.string r53,.bool b60,.string r60,.bool b61,.string r61,.bool b62,.string r62,.bool b63,.string r63] 27 (0,0))) :
  Calls Tryz.prog 5 #[.slice (some ⟨b,0,none⟩) 7 7] w fun e w' => ∃ r,e = .returned (.bool r) ∧ w' = w ∧ (r = false → r00.size ≤ 8 ∧ r01.size ≤ 8 ∧ r02.size ≤ 8 ∧ r03.size ≤ 8 ∧ r10.size ≤ 8 ∧ r11.size ≤ 8 ∧ r12.size ≤ 8 ∧ r13.size ≤ 8 ∧ r20.size ≤ 8 ∧ r21.size ≤ 8 ∧ r22.size ≤ 8 ∧ r23.size ≤ 8 ∧ r30.size ≤ 8 ∧ r31.size ≤ 8 ∧ r32.size ≤ 8 ∧ r33.size ≤ 8 ∧ r40.size ≤ 8 ∧ r41.size ≤ 8 ∧ r42.size ≤ 8 ∧ r43.size ≤ 8 ∧ r50.size ≤ 8 ∧ r51.size ≤ 8 ∧ r52.size ≤ 8 ∧ r53.size ≤ 8 ∧ r60.size ≤ 8 ∧ r61.size ≤ 8 ∧ r62.size ≤ 8 ∧ r63.size ≤ 8) := by
 have HB := Lib.hid hb
 clear hb
 go_enter Tryz.func5,Tryz.ntmps5
 go_wp2_with fail
 refine wp_loop_rounds 8 ?_
 rw [rounds_succ]
 have c0 := (cell_at (o := 1) HB.out rfl).1
 have c1 := (cell_at (o := 3) HB.out rfl).1
 have c2 := (cell_at (o := 5) HB.out rfl).1
 have c3 := (cell_at (o := 7) HB.out rfl).1
 by_cases h00 : r00.size ≤ 8
 case neg =>
  have d : decide ((8 : Int) < (r00.size : Int)) = true := decide_eq_true (by omega)
  go_wp2_with fail
  go_ret
  exact ⟨true,rfl,rfl,fun h => by cases h⟩
 have d0 : decide ((8 : Int) < (r00.size : Int)) = false := decide_eq_false (by omega)
 by_cases h01 : r01.size ≤ 8
 case neg =>
  have d : decide ((8 : Int) < (r01.size : Int)) = true := decide_eq_true (by omega)
  go_wp2_with fail
  go_ret
  exact ⟨true,rfl,rfl,fun h => by cases h⟩
 have d1 : decide ((8 : Int) < (r01.size : Int)) = false := decide_eq_false (by omega)
 by_cases h02 : r02.size ≤ 8
 case neg =>
  have d : decide ((8 : Int) < (r02.size : Int)) = true := decide_eq_true (by omega)
  go_wp2_with fail
  go_ret
  exact ⟨true,rfl,rfl,fun h => by cases h⟩
 have d2 : decide ((8 : Int) < (r02.size : Int)) = false := decide_eq_false (by omega)
 by_cases h03 : r03.size ≤ 8
 case neg =>
  have d : decide ((8 : Int) < (r03.size : Int)) = true := decide_eq_true (by omega)
  go_wp2_with fail
  go_ret
  exact ⟨true,rfl,rfl,fun h => by cases h⟩
 have d3 : decide ((8 : Int) < (r03.size : Int)) = false := decide_eq_false (by omega)
 go_wp2_with fail
 clear c0 c1 c2 c3 d0 d1 d2 d3
 rw [rounds_succ]
 have c0 := (cell_at (o := 9) HB.out rfl).1
 have c1 := (cell_at (o := 11) HB.out rfl).1
 have c2 := (cell_at (o := 13) HB.out rfl).1
 have c3 := (cell_at (o := 15) HB.out rfl).1
 by_cases h10 : r10.size ≤ 8
 case neg =>
  have d : decide ((8 : Int) < (r10.size : Int)) = true := decide_eq_true (by omega)
  go_wp2_with fail
  go_ret
  exact ⟨true,rfl,rfl,fun h => by cases h⟩
 have d0 : decide ((8 : Int) < (r10.size : Int)) = false := decide_eq_false (by omega)
 by_cases h11 : r11.size ≤ 8
 case neg =>
  have d : decide ((8 : Int) < (r11.size : Int)) = true := decide_eq_true (by omega)
  go_wp2_with fail
  go_ret
  exact ⟨true,rfl,rfl,fun h => by cases h⟩
 have d1 : decide ((8 : Int) < (r11.size : Int)) = false := decide_eq_false (by omega)
 by_cases h12 : r12.size ≤ 8
 case neg =>
  have d : decide ((8 : Int) < (r12.size : Int)) = true := decide_eq_true (by omega)
  go_wp2_with fail
  go_ret
  exact ⟨true,rfl,rfl,fun h => by cases h⟩
 have d2 : decide ((8 : Int) < (r12.size : Int)) = false := decide_eq_false (by omega)
 by_cases h13 : r13.size ≤ 8
 case neg =>
  have d : decide ((8 : Int) < (r13.size : Int)) = true := decide_eq_true (by omega)
  go_wp2_with fail
  go_ret
  exact ⟨true,rfl,rfl,fun h => by cases h⟩
 have d3 : decide ((8 : Int) < (r13.size : Int)) = false := decide_eq_false (by omega)
 go_wp2_with fail
 clear c0 c1 c2 c3 d0 d1 d2 d3
 rw [rounds_succ]
 have c0 := (cell_at (o := 17) HB.out rfl).1
 have c1 := (cell_at (o := 19) HB.out rfl).1
 have c2 := (cell_at (o := 21) HB.out rfl).1
 have c3 := (cell_at (o := 23) HB.out rfl).1
 by_cases h20 : r20.size ≤ 8
 case neg =>
  have d : decide ((8 : Int) < (r20.size : Int)) = true := decide_eq_true (by omega)
  go_wp2_with fail
  go_ret
  exact ⟨true,rfl,rfl,fun h => by cases h⟩
 have d0 : decide ((8 : Int) < (r20.size : Int)) = false := decide_eq_false (by omega)
 by_cases h21 : r21.size ≤ 8
 case neg =>
  have d : decide ((8 : Int) < (r21.size : Int)) = true := decide_eq_true (by omega)
  go_wp2_with fail
  go_ret
  exact ⟨true,rfl,rfl,fun h => by cases h⟩
 have d1 : decide ((8 : Int) < (r21.size : Int)) = false := decide_eq_false (by omega)
 by_cases h22 : r22.size ≤ 8
 case neg =>
  have d : decide ((8 : Int) < (r22.size : Int)) = true := decide_eq_true (by omega)
  go_wp2_with fail
  go_ret
  exact ⟨true,rfl,rfl,fun h => by cases h⟩
 have d2 : decide ((8 : Int) < (r22.size : Int)) = false := decide_eq_false (by omega)
 by_cases h23 : r23.size ≤ 8
 case neg =>
  have d : decide ((8 : Int) < (r23.size : Int)) = true := decide_eq_true (by omega)
  go_wp2_with fail
  go_ret
  exact ⟨true,rfl,rfl,fun h => by cases h⟩
 have d3 : decide ((8 : Int) < (r23.size : Int)) = false := decide_eq_false (by omega)
 go_wp2_with fail
 clear c0 c1 c2 c3 d0 d1 d2 d3
 rw [rounds_succ]
 have c0 := (cell_at (o := 25) HB.out rfl).1
 have c1 := (cell_at (o := 27) HB.out rfl).1
 have c2 := (cell_at (o := 29) HB.out rfl).1
 have c3 := (cell_at (o := 31) HB.out rfl).1
 by_cases h30 : r30.size ≤ 8
 case neg =>
  have d : decide ((8 : Int) < (r30.size : Int)) = true := decide_eq_true (by omega)
  go_wp2_with fail
  go_ret
  exact ⟨true,rfl,rfl,fun h => by cases h⟩
 have d0 : decide ((8 : Int) < (r30.size : Int)) = false := decide_eq_false (by omega)
 by_cases h31 : r31.size ≤ 8
 case neg =>
  have d : decide ((8 : Int) < (r31.size : Int)) = true := decide_eq_true (by omega)
  go_wp2_with fail
  go_ret
  exact ⟨true,rfl,rfl,fun h => by cases h⟩
 have d1 : decide ((8 : Int) < (r31.size : Int)) = false := decide_eq_false (by omega)
 by_cases h32 : r32.size ≤ 8
 case neg =>
  have d : decide ((8 : Int) < (r32.size : Int)) = true := decide_eq_true (by omega)
  go_wp2_with fail
  go_ret
  exact ⟨true,rfl,rfl,fun h => by cases h⟩
 have d2 : decide ((8 : Int) < (r32.size : Int)) = false := decide_eq_false (by omega)
 by_cases h33 : r33.size ≤ 8
 case neg =>
  have d : decide ((8 : Int) < (r33.size : Int)) = true := decide_eq_true (by omega)
  go_wp2_with fail
  go_ret
  exact ⟨true,rfl,rfl,fun h => by cases h⟩
 have d3 : decide ((8 : Int) < (r33.size : Int)) = false := decide_eq_false (by omega)
 go_wp2_with fail
 clear c0 c1 c2 c3 d0 d1 d2 d3
 rw [rounds_succ]
 have c0 := (cell_at (o := 33) HB.out rfl).1
 have c1 := (cell_at (o := 35) HB.out rfl).1
 have c2 := (cell_at (o := 37) HB.out rfl).1
 have c3 := (cell_at (o := 39) HB.out rfl).1
 by_cases h40 : r40.size ≤ 8
 case neg =>
  have d : decide ((8 : Int) < (r40.size : Int)) = true := decide_eq_true (by omega)
  go_wp2_with fail
  go_ret
  exact ⟨true,rfl,rfl,fun h => by cases h⟩
 have d0 : decide ((8 : Int) < (r40.size : Int)) = false := decide_eq_false (by omega)
 by_cases h41 : r41.size ≤ 8
 case neg =>
  have d : decide ((8 : Int) < (r41.size : Int)) = true := decide_eq_true (by omega)
  go_wp2_with fail
  go_ret
  exact ⟨true,rfl,rfl,fun h => by cases h⟩
 have d1 : decide ((8 : Int) < (r41.size : Int)) = false := decide_eq_false (by omega)
 by_cases h42 : r42.size ≤ 8
 case neg =>
  have d : decide ((8 : Int) < (r42.size : Int)) = true := decide_eq_true (by omega)
  go_wp2_with fail
  go_ret
  exact ⟨true,rfl,rfl,fun h => by cases h⟩
 have d2 : decide ((8 : Int) < (r42.size : Int)) = false := decide_eq_false (by omega)
 by_cases h43 : r43.size ≤ 8
 case neg =>
  have d : decide ((8 : Int) < (r43.size : Int)) = true := decide_eq_true (by omega)
  go_wp2_with fail
  go_ret
  exact ⟨true,rfl,rfl,fun h => by cases h⟩
 have d3 : decide ((8 : Int) < (r43.size : Int)) = false := decide_eq_false (by omega)
 go_wp2_with fail
 clear c0 c1 c2 c3 d0 d1 d2 d3
 rw [rounds_succ]
 have c0 := (cell_at (o := 41) HB.out rfl).1
 have c1 := (cell_at (o := 43) HB.out rfl).1
 have c2 := (cell_at (o := 45) HB.out rfl).1
 have c3 := (cell_at (o := 47) HB.out rfl).1
 by_cases h50 : r50.size ≤ 8
 case neg =>
  have d : decide ((8 : Int) < (r50.size : Int)) = true := decide_eq_true (by omega)
  go_wp2_with fail
  go_ret
  exact ⟨true,rfl,rfl,fun h => by cases h⟩
 have d0 : decide ((8 : Int) < (r50.size : Int)) = false := decide_eq_false (by omega)
 by_cases h51 : r51.size ≤ 8
 case neg =>
  have d : decide ((8 : Int) < (r51.size : Int)) = true := decide_eq_true (by omega)
  go_wp2_with fail
  go_ret
  exact ⟨true,rfl,rfl,fun h => by cases h⟩
 have d1 : decide ((8 : Int) < (r51.size : Int)) = false := decide_eq_false (by omega)
 by_cases h52 : r52.size ≤ 8
 case neg =>
  have d : decide ((8 : Int) < (r52.size : Int)) = true := decide_eq_true (by omega)
  go_wp2_with fail
  go_ret
  exact ⟨true,rfl,rfl,fun h => by cases h⟩
 have d2 : decide ((8 : Int) < (r52.size : Int)) = false := decide_eq_false (by omega)
 by_cases h53 : r53.size ≤ 8
 case neg =>
  have d : decide ((8 : Int) < (r53.size : Int)) = true := decide_eq_true (by omega)
  go_wp2_with fail
  go_ret
  exact ⟨true,rfl,rfl,fun h => by cases h⟩
 have d3 : decide ((8 : Int) < (r53.size : Int)) = false := decide_eq_false (by omega)
 go_wp2_with fail
 clear c0 c1 c2 c3 d0 d1 d2 d3
 rw [rounds_succ]
 have c0 := (cell_at (o := 49) HB.out rfl).1
 have c1 := (cell_at (o := 51) HB.out rfl).1
 have c2 := (cell_at (o := 53) HB.out rfl).1
 have c3 := (cell_at (o := 55) HB.out rfl).1
 by_cases h60 : r60.size ≤ 8
 case neg =>
  have d : decide ((8 : Int) < (r60.size : Int)) = true := decide_eq_true (by omega)
  go_wp2_with fail
  go_ret
  exact ⟨true,rfl,rfl,fun h => by cases h⟩
 have d0 : decide ((8 : Int) < (r60.size : Int)) = false := decide_eq_false (by omega)
 by_cases h61 : r61.size ≤ 8
 case neg =>
  have d : decide ((8 : Int) < (r61.size : Int)) = true := decide_eq_true (by omega)
  go_wp2_with fail
  go_ret
  exact ⟨true,rfl,rfl,fun h => by cases h⟩
 have d1 : decide ((8 : Int) < (r61.size : Int)) = false := decide_eq_false (by omega)
 by_cases h62 : r62.size ≤ 8
 case neg =>
  have d : decide ((8 : Int) < (r62.size : Int)) = true := decide_eq_true (by omega)
  go_wp2_with fail
  go_ret
  exact ⟨true,rfl,rfl,fun h => by cases h⟩
 have d2 : decide ((8 : Int) < (r62.size : Int)) = false := decide_eq_false (by omega)
 by_cases h63 : r63.size ≤ 8
 case neg =>
  have d : decide ((8 : Int) < (r63.size : Int)) = true := decide_eq_true (by omega)
  go_wp2_with fail
  go_ret
  exact ⟨true,rfl,rfl,fun h => by cases h⟩
 have d3 : decide ((8 : Int) < (r63.size : Int)) = false := decide_eq_false (by omega)
 go_wp2_with fail
 clear c0 c1 c2 c3 d0 d1 d2 d3
 rw [rounds_succ]
 go_wp2_with fail
 go_ret
 exact ⟨false,rfl,rfl,fun _ => ⟨h00,h01,h02,h03,h10,h11,h12,h13,h20,h21,h22,h23,h30,h31,h32,h33,h40,h41,h42,h43,h50,h51,h52,h53,h60,h61,h62,h63⟩⟩
end Go.Proofs.YtepefgkihnjjaaaGreat
namespace Go.Proofs.YtepefgkihnjjaaaGreat
open Go.RowKit Tr
set_option maxRecDepth 100000 in
set_option maxHeartbeats 12800000 in
theorem cube_raw (i0 i1 i2 i3 n00 n01 n02 n03 n10 n11 n12 n13 n20 n21 n22 n23 n30 n31 n32 n33 g00 g01 g02 g03 g10 g11 g12 g13 g20 g21 g22 g23 : Bool) (s00 s01 s02 s03 s10 s11 s12 s13 s20 s21 s22 s23 s30 s31 s32 s33 t00 t01 t02 t03 t10 t11 t12 t13 t20 t21 t22 t23 : ByteArray) (r0 r1 r2 r3 m0 m1 m2 z0 z1 z2 q0 q1 q2 : Bool) (H0 : ∀ w,Calls Tryz.prog 21 #[.agg #[.bool i0,.bool n00,.string s00,.bool n01,.string s01,.bool n02,.string s02,.bool n03,.string s03]] w fun e w' => e = .returned (.bool r0) ∧ Below w.heap.size w w') (H1 : ∀ w,Calls Tryz.prog 21 #[.agg #[.bool i1,.bool n10,.string s10,.bool n11,.string s11,.bool n12,.string s12,.bool n13,.string s13]] w fun e w' => e = .returned (.bool r1) ∧ Below w.heap.size w w') (H2 : ∀ w,Calls Tryz.prog 21 #[.agg #[.bool i2,.bool n20,.string s20,.bool n21,.string s21,.bool n22,.string s22,.bool n23,.string s23]] w fun e w' => e = .returned (.bool r2) ∧ Below w.heap.size w w') (H3 : ∀ w,Calls Tryz.prog 21 #[.agg #[.bool i3,.bool n30,.string s30,.bool n31,.string s31,.bool n32,.string s32,.bool n33,.string s33]] w fun e w' => e = .returned (.bool r3) ∧ Below w.heap.size w w') (M0 : ∀ w,Calls Tryz.prog 22 #[.agg #[.bool g00,.string t00,.bool g01,.string t01,.bool g02,.string t02,.bool g03,.string t03]] w fun e w' => e = .returned (.bool m0) ∧ Below w.heap.size w w') (Z0 : ∀ w,Calls Tryz.prog 23 #[.agg #[.bool g00,.string t00,.bool g01,.string t01,.bool g02,.string t02,.bool g03,.string t03]] w fun e w' => e = .returned (.bool z0) ∧ Below w.heap.size w w') (M1 : ∀ w,Calls Tryz.prog 22 #[.agg #[.bool g10,.string t10,.bool g11,.string t11,.bool g12,.string t12,.bool g13,.string t13]] w fun e w' => e = .returned (.bool m1) ∧ Below w.heap.size w w') (Z1 : ∀ w,Calls Tryz.prog 23 #[.agg #[.bool g10,.string t10,.bool g11,.string t11,.bool g12,.string t12,.bool g13,.string t13]] w fun e w' => e = .returned (.bool z1) ∧ Below w.heap.size w w') (M2 : ∀ w,Calls Tryz.prog 22 #[.agg #[.bool g20,.string t20,.bool g21,.string t21,.bool g22,.string t22,.bool g23,.string t23]] w fun e w' => e = .returned (.bool m2) ∧ Below w.heap.size w w') (Z2 : ∀ w,Calls Tryz.prog 23 #[.agg #[.bool g20,.string t20,.bool g21,.string t21,.bool g22,.string t22,.bool g23,.string t23]] w fun e w' => e = .returned (.bool z2) ∧ Below w.heap.size w w') (E0 : ∀ w,(binOp .eql 27 (.agg #[.bool g00,.string t00,.bool g01,.string t01,.bool g02,.string t02,.bool g03,.string t03]) (.agg #[.bool g10,.string t10,.bool g11,.string t11,.bool g12,.string t12,.bool g13,.string t13])).run Tryz.prog w = .ok (.bool q0) w) (E1 : ∀ w,(binOp .eql 27 (.agg #[.bool g10,.string t10,.bool g11,.string t11,.bool g12,.string t12,.bool g13,.string t13]) (.agg #[.bool g20,.string t20,.bool g21,.string t21,.bool g22,.string t22,.bool g23,.string t23])).run Tryz.prog w = .ok (.bool q1) w) (E2 : ∀ w,(binOp .eql 27 (.agg #[.bool g20,.string t20,.bool g21,.string t21,.bool g22,.string t22,.bool g23,.string t23]) (.agg #[.bool g00,.string t00,.bool g01,.string t01,.bool g02,.string t02,.bool g03,.string t03])).run Tryz.prog w = .ok (.bool q2) w) (w : World) :
  Calls Tryz.prog 37 #[.agg #[.bool i0,.bool n00,.string s00,.bool n01,.string s01,.bool n02,.string s02,.bool n03,.string s03,.bool i1,.bool n10,.string s10,.bool n11,.string s11,.bool n12,.string s12,.bool n13,.string s13,.bool i2,.bool n20,.string s20,.bool n21,.string s21,.bool n22,.string s22,.bool n23,.string s23,.bool i3,.bool n30,.string s30,.bool n31,.string s31,.bool n32,.string s32,.bool n33,.string s33,.bool g00,.string t00,.bool g01,.string t01,.bool g02,.string t02,.bool g03,.string t03,.bool g10,.string t10,.bool g11,.string t11,.bool g12,.string t12,.bool g13,.string t13,.bool g20,.string t20,.bool g21,.string t21,.bool g22,.string t22,.bool g23,.string t23]] w fun e w' => e = .returned (.int .i64 (if r0 && r1 && r2 && r3 && (m0 && !z0) && (m1 && !z1) && (m2 && !z2) && !q0 && !q1 && !q2 then 0 else 2)) ∧ Below w.heap.size w w' := by
 have HP0 := Lib.hid H0
 have HP1 := Lib.hid H1
 have HP2 := Lib.hid H2
 have HP3 := Lib.hid H3
 have HG0 := Lib.hid (And.intro M0 Z0)
 have HG1 := Lib.hid (And.intro M1 Z1)
 have HG2 := Lib.hid (And.intro M2 Z2)
 have HE := Lib.hid (And.intro E0 (And.intro E1 E2))
 clear H0 H1 H2 H3 M0 M1 M2 Z0 Z1 Z2 E0 E1 E2
 obtain ⟨W,hW⟩ : ∃ W,W = w.alloc (.cells #[.bool i0,.bool n00,.string s00,.bool n01,.string s01,.bool n02,.string s02,.bool n03,.string s03,.bool i1,.bool n10,.string s10,.bool n11,.string s11,.bool n12,.string s12,.bool n13,.string s13,.bool i2,.bool n20,.string s20,.bool n21,.string s21,.bool n22,.string s22,.bool n23,.string s23,.bool i3,.bool n30,.string s30,.bool n31,.string s31,.bool n32,.string s32,.bool n33,.string s33,.bool g00,.string t00,.bool g01,.string t01,.bool g02,.string t02,.bool g03,.string t03,.bool g10,.string t10,.bool g11,.string t11,.bool g12,.string t12,.bool g13,.string t13,.bool g20,.string t20,.bool g21,.string t21,.bool g22,.string t22,.bool g23,.string t23] 31) := ⟨_,rfl⟩
 have hgc : (w.alloc (.cells #[.bool i0,.bool n00,.string s00,.bool n01,.string s01,.bool n02,.string s02,.bool n03,.string s03,.bool i1,.bool n10,.string s10,.bool n11,.string s11,.bool n12,.string s12,.bool n13,.string s13,.bool i2,.bool n20,.string s20,.bool n21,.string s21,.bool n22,.string s22,.bool n23,.string s23,.bool i3,.bool n30,.string s30,.bool n31,.string s31,.bool n32,.string s32,.bool n33,.string s33,.bool g00,.string t00,.bool g01,.string t01,.bool g02,.string t02,.bool g03,.string t03,.bool g10,.string t10,.bool g11,.string t11,.bool g12,.string t12,.bool g13,.string t13,.bool g20,.string t20,.bool g21,.string t21,.bool g22,.string t22,.bool g23,.string t23] 31)).heap[w.heap.size]? = some (.cells #[.bool i0,.bool n00,.string s00,.bool n01,.string s01,.bool n02,.string s02,.bool n03,.string s03,.bool i1,.bool n10,.string s10,.bool n11,.string s11,.bool n12,.string s12,.bool n13,.string s13,.bool i2,.bool n20,.string s20,.bool n21,.string s21,.bool n22,.string s22,.bool n23,.string s23,.bool i3,.bool n30,.string s30,.bool n31,.string s31,.bool n32,.string s32,.bool n33,.string s33,.bool g00,.string t00,.bool g01,.string t01,.bool g02,.string t02,.bool g03,.string t03,.bool g10,.string t10,.bool g11,.string t11,.bool g12,.string t12,.bool g13,.string t13,.bool g20,.string t20,.bool g21,.string t21,.bool g22,.string t22,.bool g23,.string t23] 31 (0,0)) := heap_alloc_new w _
 have hb0 : Below w.heap.size w W := by rw [hW]; exact br.alloc (Nat.le_refl _) _
 have hs0 : w.heap.size < W.heap.size := by rw [hW]; simp
 have HW := Lib.hid (And.intro hW (And.intro hb0 (And.intro (show W.heap[w.heap.size]? = some (.cells #[.bool i0,.bool n00,.string s00,.bool n01,.string s01,.bool n02,.string s02,.bool n03,.string s03,.bool i1,.bool n10,.string s10,.bool n11,.string s11,.bool n12,.string s12,.bool n13,.string s13,.bool i2,.bool n20,.string s20,.bool n21,.string s21,.bool n22,.string s22,.bool n23,.string s23,.bool i3,.bool n30,.string s30,.bool n31,.string s31,.bool n32,.string s32,.bool n33,.string s33,.bool g00,.string t00,.bool g01,.string t01,.bool g02,.string t02,.bool g03,.string t03,.bool g10,.string t10,.bool g11,.string t11,.bool g12,.string t12,.bool g13,.string t13,.bool g20,.string t20,.bool g21,.string t21,.bool g22,.string t22,.bool g23,.string t23] 31 (0,0)) by rw [hW]; exact hgc) hs0)))
 clear hW hb0 hs0
 obtain ⟨rv,hrv⟩ : ∃ rv : Int,rv = (if r0 && r1 && r2 && r3 && (m0 && !z0) && (m1 && !z1) && (m2 && !z2) && !q0 && !q1 && !q2 then 0 else 2) := ⟨_,rfl⟩
 rw [← hrv]
 have HRV := Lib.hid hrv
 clear hrv
 go_enter Tryz.func37,Tryz.ntmps37
 go_wp2_with (first
  | (refine Go.Great.wpList_boxTo rfl 31 _ rfl (some 1) rfl w.heap.size rfl _ rfl ?_)
  | (refine wpList_load_part (by kernel_rfl) 29 _ rfl w.heap.size 0 rfl 31 _ #[.bool i0,.bool n00,.string s00,.bool n01,.string s01,.bool n02,.string s02,.bool n03,.string s03] (0,0) _ hgc Tryz.underlying29 rfl (by kernel_rfl) (by kernel_rfl) ?_)
  | (refine wpList_load_part (by kernel_rfl) 29 _ rfl w.heap.size 9 rfl 31 _ #[.bool i1,.bool n10,.string s10,.bool n11,.string s11,.bool n12,.string s12,.bool n13,.string s13] (0,0) _ hgc Tryz.underlying29 rfl (by kernel_rfl) (by kernel_rfl) ?_)
  | (refine wpList_load_part (by kernel_rfl) 29 _ rfl w.heap.size 18 rfl 31 _ #[.bool i2,.bool n20,.string s20,.bool n21,.string s21,.bool n22,.string s22,.bool n23,.string s23] (0,0) _ hgc Tryz.underlying29 rfl (by kernel_rfl) (by kernel_rfl) ?_)
  | (refine wpList_load_part (by kernel_rfl) 29 _ rfl w.heap.size 27 rfl 31 _ #[.bool i3,.bool n30,.string s30,.bool n31,.string s31,.bool n32,.string s32,.bool n33,.string s33] (0,0) _ hgc Tryz.underlying29 rfl (by kernel_rfl) (by kernel_rfl) ?_))
 rw [← HW.out.1]
 clear hgc
 obtain ⟨u0,hu0⟩ : ∃ u0,u0 = W := ⟨_,rfl⟩
 have HU0 := Lib.hid (show Below W.heap.size W u0 by rw [hu0]; exact Below.refl _ _)
 rw [← hu0]
 clear hu0
 refine wp_loop_rounds 5 ?_
 have ix : ∀ w,(Instr.index 73 (.agg #[.bool i0,.bool n00,.string s00,.bool n01,.string s01,.bool n02,.string s02,.bool n03,.string s03,.bool i1,.bool n10,.string s10,.bool n11,.string s11,.bool n12,.string s12,.bool n13,.string s13,.bool i2,.bool n20,.string s20,.bool n21,.string s21,.bool n22,.string s22,.bool n23,.string s23,.bool i3,.bool n30,.string s30,.bool n31,.string s31,.bool n32,.string s32,.bool n33,.string s33]) (.int .i64 0)).run Tryz.prog w = .ok (.agg #[.bool i0,.bool n00,.string s00,.bool n01,.string s01,.bool n02,.string s02,.bool n03,.string s03]) w := fun _ => by kernel_rfl
 rw [rounds_succ]
 go_wp2_with fail
 refine (HP0.out _).mono ?_
 rintro e u1 ⟨rfl,hb⟩
 have HU1 := Lib.hid (HU0.out.trans ((((Below.refl u0.heap.size u0).alloc (Nat.le_refl _) _).trans (hb.mono (by simp))).mono HU0.out.size))
 clear hb ix HU0 HP0
 cases r0
 case false =>
  go_wp2_with fail
  go_ret
  exact ⟨by rw [HRV.out]; simp,HW.out.2.1.trans (HU1.out.mono HW.out.2.1.size)⟩
 go_wp2_with fail
 have ix : ∀ w,(Instr.index 73 (.agg #[.bool i0,.bool n00,.string s00,.bool n01,.string s01,.bool n02,.string s02,.bool n03,.string s03,.bool i1,.bool n10,.string s10,.bool n11,.string s11,.bool n12,.string s12,.bool n13,.string s13,.bool i2,.bool n20,.string s20,.bool n21,.string s21,.bool n22,.string s22,.bool n23,.string s23,.bool i3,.bool n30,.string s30,.bool n31,.string s31,.bool n32,.string s32,.bool n33,.string s33]) (.int .i64 1)).run Tryz.prog w = .ok (.agg #[.bool i1,.bool n10,.string s10,.bool n11,.string s11,.bool n12,.string s12,.bool n13,.string s13]) w := fun _ => by kernel_rfl
 rw [rounds_succ]
 go_wp2_with fail
 refine (HP1.out _).mono ?_
 rintro e u2 ⟨rfl,hb⟩
 have HU2 := Lib.hid (HU1.out.trans ((((Below.refl u1.heap.size u1).alloc (Nat.le_refl _) _).trans (hb.mono (by simp))).mono HU1.out.size))
 clear hb ix HU1 HP1
 cases r1
 case false =>
  go_wp2_with fail
  go_ret
  exact ⟨by rw [HRV.out]; simp,HW.out.2.1.trans (HU2.out.mono HW.out.2.1.size)⟩
 go_wp2_with fail
 have ix : ∀ w,(Instr.index 73 (.agg #[.bool i0,.bool n00,.string s00,.bool n01,.string s01,.bool n02,.string s02,.bool n03,.string s03,.bool i1,.bool n10,.string s10,.bool n11,.string s11,.bool n12,.string s12,.bool n13,.string s13,.bool i2,.bool n20,.string s20,.bool n21,.string s21,.bool n22,.string s22,.bool n23,.string s23,.bool i3,.bool n30,.string s30,.bool n31,.string s31,.bool n32,.string s32,.bool n33,.string s33]) (.int .i64 2)).run Tryz.prog w = .ok (.agg #[.bool i2,.bool n20,.string s20,.bool n21,.string s21,.bool n22,.string s22,.bool n23,.string s23]) w := fun _ => by kernel_rfl
 rw [rounds_succ]
 go_wp2_with fail
 refine (HP2.out _).mono ?_
 rintro e u3 ⟨rfl,hb⟩
 have HU3 := Lib.hid (HU2.out.trans ((((Below.refl u2.heap.size u2).alloc (Nat.le_refl _) _).trans (hb.mono (by simp))).mono HU2.out.size))
 clear hb ix HU2 HP2
 cases r2
 case false =>
  go_wp2_with fail
  go_ret
  exact ⟨by rw [HRV.out]; simp,HW.out.2.1.trans (HU3.out.mono HW.out.2.1.size)⟩
 go_wp2_with fail
 have ix : ∀ w,(Instr.index 73 (.agg #[.bool i0,.bool n00,.string s00,.bool n01,.string s01,.bool n02,.string s02,.bool n03,.string s03,.bool i1,.bool n10,.string s10,.bool n11,.string s11,.bool n12,.string s12,.bool n13,.string s13,.bool i2,.bool n20,.string s20,.bool n21,.string s21,.bool n22,.string s22,.bool n23,.string s23,.bool i3,.bool n30,.string s30,.bool n31,.string s31,.bool n32,.string s32,.bool n33,.string s33]) (.int .i64 3)).run Tryz.prog w = .ok (.agg #[.bool i3,.bool n30,.string s30,.bool n31,.string s31,.bool n32,.string s32,.bool n33,.string s33]) w := fun _ => by kernel_rfl
 rw [rounds_succ]
 go_wp2_with fail
 refine (HP3.out _).mono ?_
 rintro e u4 ⟨rfl,hb⟩
 have HU4 := Lib.hid (HU3.out.trans ((((Below.refl u3.heap.size u3).alloc (Nat.le_refl _) _).trans (hb.mono (by simp))).mono HU3.out.size))
 clear hb ix HU3 HP3
 cases r3
 case false =>
  go_wp2_with fail
  go_ret
  exact ⟨by rw [HRV.out]; simp,HW.out.2.1.trans (HU4.out.mono HW.out.2.1.size)⟩
 go_wp2_with fail
 have hg4 : u4.heap[w.heap.size]? = some (.cells #[.bool i0,.bool n00,.string s00,.bool n01,.string s01,.bool n02,.string s02,.bool n03,.string s03,.bool i1,.bool n10,.string s10,.bool n11,.string s11,.bool n12,.string s12,.bool n13,.string s13,.bool i2,.bool n20,.string s20,.bool n21,.string s21,.bool n22,.string s22,.bool n23,.string s23,.bool i3,.bool n30,.string s30,.bool n31,.string s31,.bool n32,.string s32,.bool n33,.string s33,.bool g00,.string t00,.bool g01,.string t01,.bool g02,.string t02,.bool g03,.string t03,.bool g10,.string t10,.bool g11,.string t11,.bool g12,.string t12,.bool g13,.string t13,.bool g20,.string t20,.bool g21,.string t21,.bool g22,.string t22,.bool g23,.string t23] 31 (0,0)) := (HU4.out.block _ HW.out.2.2.2).trans HW.out.2.2.1
 rw [rounds_succ]
 go_wp2_with (first
  | (refine wpList_load_part (by kernel_rfl) 27 _ rfl w.heap.size 36 rfl 31 _ #[.bool g00,.string t00,.bool g01,.string t01,.bool g02,.string t02,.bool g03,.string t03] (0,0) _ hg4 Tryz.underlying27 rfl (by kernel_rfl) (by kernel_rfl) ?_)
  | (refine wpList_load_part (by kernel_rfl) 27 _ rfl w.heap.size 44 rfl 31 _ #[.bool g10,.string t10,.bool g11,.string t11,.bool g12,.string t12,.bool g13,.string t13] (0,0) _ hg4 Tryz.underlying27 rfl (by kernel_rfl) (by kernel_rfl) ?_)
  | (refine wpList_load_part (by kernel_rfl) 27 _ rfl w.heap.size 52 rfl 31 _ #[.bool g20,.string t20,.bool g21,.string t21,.bool g22,.string t22,.bool g23,.string t23] (0,0) _ hg4 Tryz.underlying27 rfl (by kernel_rfl) (by kernel_rfl) ?_))
 clear hg4
 obtain ⟨v0,hv0⟩ : ∃ v0,v0 = u4 := ⟨_,rfl⟩
 rw [← hv0] at HU4 ⊢
 clear hv0
 have HV0 := HU4
 clear HU4
 refine wp_loop_rounds 4 ?_
 have ix : ∀ w,(Instr.index 123 (.agg #[.bool g00,.string t00,.bool g01,.string t01,.bool g02,.string t02,.bool g03,.string t03,.bool g10,.string t10,.bool g11,.string t11,.bool g12,.string t12,.bool g13,.string t13,.bool g20,.string t20,.bool g21,.string t21,.bool g22,.string t22,.bool g23,.string t23]) (.int .i64 0)).run Tryz.prog w = .ok (.agg #[.bool g00,.string t00,.bool g01,.string t01,.bool g02,.string t02,.bool g03,.string t03]) w := fun _ => by kernel_rfl
 rw [rounds_succ]
 go_wp2_with fail
 refine (HG0.out.1 _).mono ?_
 rintro e y ⟨rfl,hb⟩
 have hbx : Below v0.heap.size v0 y := (((Below.refl v0.heap.size v0).alloc (Nat.le_refl _) _).trans (hb.mono (by simp)))
 have HY := Lib.hid (HV0.out.trans (hbx.mono HV0.out.size))
 obtain ⟨x0,x1,x2,x3,x4,x5,x6,x7⟩ := new_eight v0 _ _ _ _ _ _ _ _ _ hb
 have hx : v0.heap.size < y.heap.size := by have := hb.size; simp at this; omega
 clear hb hbx ix HV0
 cases m0
 case false =>
  go_wp2_with fail
  go_ret
  exact ⟨by rw [HRV.out]; simp,HW.out.2.1.trans (HY.out.mono HW.out.2.1.size)⟩
 go_wp2_with fail
 refine (HG0.out.2 _).mono ?_
 rintro e v1 ⟨rfl,hb⟩
 have HV1 := Lib.hid (HY.out.trans (hb.mono HY.out.size))
 clear hb HY x0 x1 x2 x3 x4 x5 x6 x7 hx HG0
 cases z0
 case true =>
  go_wp2_with fail
  go_ret
  exact ⟨by rw [HRV.out]; simp,HW.out.2.1.trans (HV1.out.mono HW.out.2.1.size)⟩
 go_wp2_with fail
 have ix : ∀ w,(Instr.index 123 (.agg #[.bool g00,.string t00,.bool g01,.string t01,.bool g02,.string t02,.bool g03,.string t03,.bool g10,.string t10,.bool g11,.string t11,.bool g12,.string t12,.bool g13,.string t13,.bool g20,.string t20,.bool g21,.string t21,.bool g22,.string t22,.bool g23,.string t23]) (.int .i64 1)).run Tryz.prog w = .ok (.agg #[.bool g10,.string t10,.bool g11,.string t11,.bool g12,.string t12,.bool g13,.string t13]) w := fun _ => by kernel_rfl
 rw [rounds_succ]
 go_wp2_with fail
 refine (HG1.out.1 _).mono ?_
 rintro e y ⟨rfl,hb⟩
 have hbx : Below v1.heap.size v1 y := (((Below.refl v1.heap.size v1).alloc (Nat.le_refl _) _).trans (hb.mono (by simp)))
 have HY := Lib.hid (HV1.out.trans (hbx.mono HV1.out.size))
 obtain ⟨x0,x1,x2,x3,x4,x5,x6,x7⟩ := new_eight v1 _ _ _ _ _ _ _ _ _ hb
 have hx : v1.heap.size < y.heap.size := by have := hb.size; simp at this; omega
 clear hb hbx ix HV1
 cases m1
 case false =>
  go_wp2_with fail
  go_ret
  exact ⟨by rw [HRV.out]; simp,HW.out.2.1.trans (HY.out.mono HW.out.2.1.size)⟩
 go_wp2_with fail
 refine (HG1.out.2 _).mono ?_
 rintro e v2 ⟨rfl,hb⟩
 have HV2 := Lib.hid (HY.out.trans (hb.mono HY.out.size))
 clear hb HY x0 x1 x2 x3 x4 x5 x6 x7 hx HG1
 cases z1
 case true =>
  go_wp2_with fail
  go_ret
  exact ⟨by rw [HRV.out]; simp,HW.out.2.1.trans (HV2.out.mono HW.out.2.1.size)⟩
 go_wp2_with fail
 have ix : ∀ w,(Instr.index 123 (.agg #[.bool g00,.string t00,.bool g01,.string t01,.bool g02,.string t02,.bool g03,.string t03,.bool g10,.string t10,.bool g11,.string t11,.bool g12,.string t12,.bool g13,.string t13,.bool g20,.string t20,.bool g21,.string t21,.bool g22,.string t22,.bool g23,.string t23]) (.int .i64 2)).run Tryz.prog w = .ok (.agg #[.bool g20,.string t20,.bool g21,.string t21,.bool g22,.string t22,.bool g23,.string t23]) w := fun _ => by kernel_rfl
 rw [rounds_succ]
 go_wp2_with fail
 refine (HG2.out.1 _).mono ?_
 rintro e y ⟨rfl,hb⟩
 have hbx : Below v2.heap.size v2 y := (((Below.refl v2.heap.size v2).alloc (Nat.le_refl _) _).trans (hb.mono (by simp)))
 have HY := Lib.hid (HV2.out.trans (hbx.mono HV2.out.size))
 obtain ⟨x0,x1,x2,x3,x4,x5,x6,x7⟩ := new_eight v2 _ _ _ _ _ _ _ _ _ hb
 have hx : v2.heap.size < y.heap.size := by have := hb.size; simp at this; omega
 clear hb hbx ix HV2
 cases m2
 case false =>
  go_wp2_with fail
  go_ret
  exact ⟨by rw [HRV.out]; simp,HW.out.2.1.trans (HY.out.mono HW.out.2.1.size)⟩
 go_wp2_with fail
 refine (HG2.out.2 _).mono ?_
 rintro e v3 ⟨rfl,hb⟩
 have HV3 := Lib.hid (HY.out.trans (hb.mono HY.out.size))
 clear hb HY x0 x1 x2 x3 x4 x5 x6 x7 hx HG2
 cases z2
 case true =>
  go_wp2_with fail
  go_ret
  exact ⟨by rw [HRV.out]; simp,HW.out.2.1.trans (HV3.out.mono HW.out.2.1.size)⟩
 go_wp2_with fail
 have hg4 : v3.heap[w.heap.size]? = some (.cells #[.bool i0,.bool n00,.string s00,.bool n01,.string s01,.bool n02,.string s02,.bool n03,.string s03,.bool i1,.bool n10,.string s10,.bool n11,.string s11,.bool n12,.string s12,.bool n13,.string s13,.bool i2,.bool n20,.string s20,.bool n21,.string s21,.bool n22,.string s22,.bool n23,.string s23,.bool i3,.bool n30,.string s30,.bool n31,.string s31,.bool n32,.string s32,.bool n33,.string s33,.bool g00,.string t00,.bool g01,.string t01,.bool g02,.string t02,.bool g03,.string t03,.bool g10,.string t10,.bool g11,.string t11,.bool g12,.string t12,.bool g13,.string t13,.bool g20,.string t20,.bool g21,.string t21,.bool g22,.string t22,.bool g23,.string t23] 31 (0,0)) := (HV3.out.block _ HW.out.2.2.2).trans HW.out.2.2.1
 obtain ⟨he0,he1,he2⟩ := HE.out
 clear HE
 cases q0
 case true =>
  rw [rounds_succ]
  go_wp2_with (first
   | (refine wpList_load_part (by kernel_rfl) 27 _ rfl w.heap.size 36 rfl 31 _ #[.bool g00,.string t00,.bool g01,.string t01,.bool g02,.string t02,.bool g03,.string t03] (0,0) _ hg4 Tryz.underlying27 rfl (by kernel_rfl) (by kernel_rfl) ?_)
   | (refine wpList_load_part (by kernel_rfl) 27 _ rfl w.heap.size 44 rfl 31 _ #[.bool g10,.string t10,.bool g11,.string t11,.bool g12,.string t12,.bool g13,.string t13] (0,0) _ hg4 Tryz.underlying27 rfl (by kernel_rfl) (by kernel_rfl) ?_)
   | (refine wpList_load_part (by kernel_rfl) 27 _ rfl w.heap.size 52 rfl 31 _ #[.bool g20,.string t20,.bool g21,.string t21,.bool g22,.string t22,.bool g23,.string t23] (0,0) _ hg4 Tryz.underlying27 rfl (by kernel_rfl) (by kernel_rfl) ?_))
  go_ret
  exact ⟨by rw [HRV.out]; simp,HW.out.2.1.trans (HV3.out.mono HW.out.2.1.size)⟩
 cases q1
 case true =>
  rw [rounds_succ]
  go_wp2_with (first
   | (refine wpList_load_part (by kernel_rfl) 27 _ rfl w.heap.size 36 rfl 31 _ #[.bool g00,.string t00,.bool g01,.string t01,.bool g02,.string t02,.bool g03,.string t03] (0,0) _ hg4 Tryz.underlying27 rfl (by kernel_rfl) (by kernel_rfl) ?_)
   | (refine wpList_load_part (by kernel_rfl) 27 _ rfl w.heap.size 44 rfl 31 _ #[.bool g10,.string t10,.bool g11,.string t11,.bool g12,.string t12,.bool g13,.string t13] (0,0) _ hg4 Tryz.underlying27 rfl (by kernel_rfl) (by kernel_rfl) ?_)
   | (refine wpList_load_part (by kernel_rfl) 27 _ rfl w.heap.size 52 rfl 31 _ #[.bool g20,.string t20,.bool g21,.string t21,.bool g22,.string t22,.bool g23,.string t23] (0,0) _ hg4 Tryz.underlying27 rfl (by kernel_rfl) (by kernel_rfl) ?_))
  go_ret
  exact ⟨by rw [HRV.out]; simp,HW.out.2.1.trans (HV3.out.mono HW.out.2.1.size)⟩
 cases q2
 all_goals (
  rw [rounds_succ]
  go_wp2_with (first
   | (refine wpList_load_part (by kernel_rfl) 27 _ rfl w.heap.size 36 rfl 31 _ #[.bool g00,.string t00,.bool g01,.string t01,.bool g02,.string t02,.bool g03,.string t03] (0,0) _ hg4 Tryz.underlying27 rfl (by kernel_rfl) (by kernel_rfl) ?_)
   | (refine wpList_load_part (by kernel_rfl) 27 _ rfl w.heap.size 44 rfl 31 _ #[.bool g10,.string t10,.bool g11,.string t11,.bool g12,.string t12,.bool g13,.string t13] (0,0) _ hg4 Tryz.underlying27 rfl (by kernel_rfl) (by kernel_rfl) ?_)
   | (refine wpList_load_part (by kernel_rfl) 27 _ rfl w.heap.size 52 rfl 31 _ #[.bool g20,.string t20,.bool g21,.string t21,.bool g22,.string t22,.bool g23,.string t23] (0,0) _ hg4 Tryz.underlying27 rfl (by kernel_rfl) (by kernel_rfl) ?_))
  go_ret
  exact ⟨by rw [HRV.out]; simp,HW.out.2.1.trans (HV3.out.mono HW.out.2.1.size)⟩)
end Go.Proofs.YtepefgkihnjjaaaGreat
