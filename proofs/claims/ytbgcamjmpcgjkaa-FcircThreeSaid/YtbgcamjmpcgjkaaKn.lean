/- fcirc's Radius, Side, Centre at the numbers of known(), and known() itself. -/
import Derived.Test.YtbgcamjmpcgjkaaIm
namespace Go.Proofs.Ytbgcamjmpcgjkaa
open Go.RowKit Go.Shelf Tr

set_option maxHeartbeats 400000 in
/-- finite of a row of finite floats. -/
theorem ffinite_ok (b off len cap : Nat) (f : Nat → Nat) (w : World) (hlen : len ≤ 1000) (hc : ∀ j, j < len → w.cell? ⟨b, off + j, none⟩ = some (.float .f64 (f j)) ∧ Fin1 (f j)) :
    Calls Try.prog 28 #[.slice (some ⟨b, off, none⟩) len cap] w fun e w' => e = .returned (.bool true) ∧ w = w' := by
  have HC := Lib.hid hc
  clear hc
  go_enter Try.func28, Try.ntmps28
  go_wp2
  go_loop [7] (fun i => ∃ k : Nat, k ≤ len ∧ i = .int .i64 k) (fun i => len - (intOf i).toNat)
  case atStart => exact ⟨0, Nat.zero_le _, rfl⟩
  case round =>
    obtain ⟨k, hk, rfl⟩ := hrel
    by_cases hlt : k < len
    · obtain ⟨hcell, h0, h1, h2⟩ := HC.out k hlt
      go_wp2_with (first | (go_at_call 31; refine (isnan_any _ _).mono ?_; rintro e w' ⟨rfl, rfl⟩; rw [h1]) | (go_at_call 32; refine (isinf0_any h0 _).mono ?_; rintro e w' ⟨rfl, rfl⟩; rw [h2]))
      go_round
      case rel => exact ⟨k + 1, by omega, by go_num⟩
      case measure => simp [intOf]; omega
    · go_wp2
      go_ret
      exact ⟨rfl, rfl⟩

theorem fin_one : Fin1 4607182418800017408 := by unfold Fin1; decide +kernel
theorem fin_mone : Fin1 13830554455654793216 := by unfold Fin1; decide +kernel
theorem fin_zero : Fin1 0 := by unfold Fin1; decide +kernel

def CPow (A br bi C r : Nat) : Prop := ∃ s u, VOp .mul A C s ∧ CDot br bi br bi u ∧ VOp .sub u s r
theorem power_ok {A br bi C r : Nat} (h : CPow A br bi C r) (w : World) :
    Calls Try.prog 27 #[.agg #[.float .f64 A, .complex .f64 br bi, .float .f64 C]] w fun e w' => e = .returned (.float .f64 r) ∧ Below w.heap.size w w' := by
  obtain ⟨s, u, h1, h2, h3⟩ := h
  go_enter Try.func27, Try.ntmps27
  go_wp2_with (first | (go_at_call 13; refine (abs2_ok h2 _).mono ?_; rintro e w' ⟨rfl, rfl⟩) | (refine wpList_fok rfl _ _ _ _ _ rfl _ _ rfl rfl (by with_reducible assumption) ?_))
  go_ret
  exact ⟨rfl, (Below.refl _ _).alloc (Nat.le_refl _) _⟩

theorem bcell {W w1 : World} (hb : Below W.heap.size W w1) : (∀ b o, b < W.heap.size → w1.cell? ⟨b, o, none⟩ = W.cell? ⟨b, o, none⟩) ∧ (∀ b o, b < W.heap.size → w1.frozen? ⟨b, o, none⟩ = W.frozen? ⟨b, o, none⟩) :=
  ⟨fun b o h => hb.cell (p := ⟨b, o, none⟩) h, fun b o h => hb.frozen (p := ⟨b, o, none⟩) h⟩

theorem sqrt_one (w : World) : Calls Try.prog 29 #[.float .f64 4607182418800017408] w fun e w' => e = .returned (.float .f64 4607182418800017408) ∧ w = w' := by
  have e1 : ∀ w : World, (callFunc 33 #[.float .f64 4607182418800017408]).run Try.prog w = .ok (.value (.float .f64 4607182418800017408)) w := fun w => by kernel_rfl
  go_enter Try.func29, Try.ntmps29
  go_wp2
  go_ret
  exact ⟨rfl, rfl⟩

theorem ffin4 {a b c d : Nat} (ha : Fin1 a) (hb : Fin1 b) (hc : Fin1 c) (hd : Fin1 d) (w : World) (t : TypeId) (B : Nat) (hB : B = w.heap.size) :
    Calls Try.prog 28 #[.slice (some ⟨B, 0, none⟩) 4 4] (w.alloc (.cells #[.float .f64 a, .float .f64 b, .float .f64 c, .float .f64 d] t)) fun e w' => e = .returned (.bool true) ∧ w.alloc (.cells #[.float .f64 a, .float .f64 b, .float .f64 c, .float .f64 d] t) = w' :=
  hB ▸ ffinite_ok _ _ _ _ (fun j => if j = 0 then a else if j = 1 then b else if j = 2 then c else d) _ (by decide) (fun j hj => by
    have : j = 0 ∨ j = 1 ∨ j = 2 ∨ j = 3 := by omega
    rcases this with rfl | rfl | rfl | rfl <;> simp [go_sem] <;> assumption)
theorem ffin3 {a b c : Nat} (ha : Fin1 a) (hb : Fin1 b) (hc : Fin1 c) (w : World) (t : TypeId) (B : Nat) (hB : B = w.heap.size) :
    Calls Try.prog 28 #[.slice (some ⟨B, 0, none⟩) 3 3] (w.alloc (.cells #[.float .f64 a, .float .f64 b, .float .f64 c] t)) fun e w' => e = .returned (.bool true) ∧ w.alloc (.cells #[.float .f64 a, .float .f64 b, .float .f64 c] t) = w' :=
  hB ▸ ffinite_ok _ _ _ _ (fun j => if j = 0 then a else if j = 1 then b else c) _ (by decide) (fun j hj => by
    have : j = 0 ∨ j = 1 ∨ j = 2 := by omega
    rcases this with rfl | rfl | rfl <;> simp [go_sem] <;> assumption)

set_option maxHeartbeats 400000 in
theorem radius_unit (w : World) :
    Calls Try.prog 17 #[.agg #[.float .f64 4607182418800017408, .complex .f64 0 0, .float .f64 13830554455654793216]] w fun e w' => e = .returned (.tuple #[.float .f64 4607182418800017408, .int .i64 0]) ∧ Below w.heap.size w w' := by
  have hp : CPow 4607182418800017408 0 0 13830554455654793216 4607182418800017408 := ⟨13830554455654793216, 0, by unfold VOp; decide +kernel, ⟨0, 0, by unfold VOp; decide +kernel, by unfold VOp; decide +kernel, by unfold VOp; decide +kernel⟩, by unfold VOp; decide +kernel⟩
  have t1 : (FloatKind.f64.format.order 4607182418800017408 0 == some .eq) = false := by decide +kernel
  have t2 : (FloatKind.f64.format.order 4607182418800017408 0 == some .lt) = false := by decide +kernel
  have q1 : VOp .quo 4607182418800017408 4607182418800017408 4607182418800017408 := by unfold VOp; decide +kernel
  have q2 := fun w => q1.run (P := Try.prog) 25 w
  have ha := fun w => abs_any (x := 4607182418800017408) (by decide) w
  go_enter Try.func17, Try.ntmps17
  go_wp2_with (first | (go_at_call 27; refine (power_ok hp _).mono ?_; rintro e w1 ⟨rfl, hb1⟩; obtain ⟨hc, hf⟩ := bcell hb1; have hz := hb1.size; simp at hz))
  refine (ffin4 fin_one fin_zero fin_zero fin_mone _ _ _ rfl).mono ?_
  rintro e w' ⟨rfl, rfl⟩
  obtain ⟨w3, hw3⟩ : ∃ w3 : World, w3 = w1.alloc (Obj.cells #[Value.float FloatKind.f64 4607182418800017408, Value.float FloatKind.f64 0, Value.float FloatKind.f64 0, Value.float FloatKind.f64 13830554455654793216] 25) := ⟨_, rfl⟩
  have hB3 : Below w1.heap.size w1 w3 := by rw [hw3]; exact (Below.refl _ _).alloc (Nat.le_refl _) _
  have c0 : w3.cell? ⟨w.heap.size, 0, none⟩ = some (.float .f64 4607182418800017408) := by
    rw [hB3.cell (p := ⟨w.heap.size, 0, none⟩) (by show w.heap.size < _; omega), hc _ _ (by simp)]; simp [go_sem]
  rw [← hw3]
  clear hw3 hc hf
  go_wp2
  go_quiet ((first | (go_at_call 29; exact quiet_eq (sqrt_one _)) | (go_at_call 30; exact quiet_eq (ha _))))
  go_wp2
  go_ret2
  refine ⟨rfl, below_drewN ?_ _⟩
  exact ((Below.refl w.heap.size w).alloc (Nat.le_refl _) (Obj.cells #[Value.float FloatKind.f64 4607182418800017408, Value.complex FloatKind.f64 0 0, Value.float FloatKind.f64 13830554455654793216] 28)).trans ((hb1.mono (by simp)).trans (hB3.mono (by omega)))

set_option maxHeartbeats 400000 in
theorem side_unit (w : World) :
    Calls Try.prog 18 #[.agg #[.float .f64 4607182418800017408, .complex .f64 0 0, .float .f64 13830554455654793216], .complex .f64 4602678819172646912 0] w fun e w' => e = .returned (.tuple #[.int .i64 (-1), .int .i64 0]) ∧ Below w.heap.size w w' := by
  have hv : CVal 4607182418800017408 0 0 13830554455654793216 4602678819172646912 0 13828302655841107968 := ⟨4598175219545276416, 0, 0, 4598175219545276416, 0, 4598175219545276416, ⟨4598175219545276416, 0, by unfold VOp; decide +kernel, by unfold VOp; decide +kernel, by unfold VOp; decide +kernel⟩,
    ⟨0, 0, 0, 0, by unfold VOp; decide +kernel, by unfold VOp; decide +kernel, by unfold VOp; decide +kernel, by unfold VOp; decide +kernel, by unfold VOp; decide +kernel, by unfold VOp; decide +kernel⟩, by unfold VOp; decide +kernel, by unfold VOp; decide +kernel, by unfold VOp; decide +kernel, by unfold VOp; decide +kernel⟩
  have t1 : (FloatKind.f64.format.order 13828302655841107968 13828302655841107968 != some .eq) = false := by decide +kernel
  have t2 : (FloatKind.f64.format.order 13828302655841107968 0 == some .lt) = true := by decide +kernel
  go_enter Try.func18, Try.ntmps18
  go_wp2_with (first | (go_at_call 7; refine (value_ok hv _).mono ?_; rintro e w1 ⟨rfl, hb1⟩))
  go_ret2
  refine ⟨rfl, ?_⟩
  exact (((Below.refl w.heap.size w).alloc (Nat.le_refl _) (Obj.cells #[Value.float FloatKind.f64 4607182418800017408, Value.complex FloatKind.f64 0 0, Value.float FloatKind.f64 13830554455654793216] 28)).trans (hb1.mono (by simp)))

set_option maxHeartbeats 400000 in
theorem centre_line (w : World) :
    Calls Try.prog 19 #[.agg #[.float .f64 0, .complex .f64 4607182418800017408 0, .float .f64 0]] w fun e w' => e = .returned (.tuple #[.complex .f64 0 0, .int .i64 5]) ∧ Below w.heap.size w w' := by
  have t1 : (FloatKind.f64.format.order 0 0 == some .eq) = true := by decide +kernel
  go_enter Try.func19, Try.ntmps19
  go_wp2_with (first | (go_at_call 28; refine (ffin3 fin_zero fin_one fin_zero _ _ _ (by simp)).mono ?_; rintro e w' ⟨rfl, rfl⟩))
  go_ret2
  refine ⟨rfl, ?_⟩
  exact (((Below.refl _ _).alloc (Nat.le_refl _) _).alloc (by simp) _)

set_option maxHeartbeats 800000 in
theorem known_ok (w : World) :
    Calls Try.prog 6 #[] w fun e w' => e = .returned (.bool true) ∧ Below w.heap.size w w' := by
  have hv : CVal 4607182418800017408 0 0 13830554455654793216 4611686018427387904 0 4613937818241073152 := ⟨4616189618054758400, 0, 0, 4616189618054758400, 0, 4616189618054758400, ⟨4616189618054758400, 0, by unfold VOp; decide +kernel, by unfold VOp; decide +kernel, by unfold VOp; decide +kernel⟩,
    ⟨0, 0, 0, 0, by unfold VOp; decide +kernel, by unfold VOp; decide +kernel, by unfold VOp; decide +kernel, by unfold VOp; decide +kernel, by unfold VOp; decide +kernel, by unfold VOp; decide +kernel⟩, by unfold VOp; decide +kernel, by unfold VOp; decide +kernel, by unfold VOp; decide +kernel, by unfold VOp; decide +kernel⟩
  have t1 : (FloatKind.f64.format.order 4613937818241073152 4613937818241073152 == some .eq) = true := by decide +kernel
  have t2 : (FloatKind.f64.format.order 4607182418800017408 4607182418800017408 == some .eq) = true := by decide +kernel
  go_enter Try.func6, Try.ntmps6
  go_wp2_with (first
    | (go_at_call 17; refine (radius_unit _).mono ?_; rintro e w1 ⟨rfl, hb1⟩; obtain ⟨hc1, hf1⟩ := bcell hb1; have hz1 := hb1.size; simp at hz1; have hl1 : w.heap.size < w1.heap.size := by omega)
    | (go_at_call 18; refine (side_unit _).mono ?_; rintro e w2 ⟨rfl, hb2⟩; obtain ⟨hc2, hf2⟩ := bcell hb2; have hz2 := hb2.size; have hl2 : w.heap.size < w2.heap.size := by omega)
    | (go_at_call 19; refine (centre_line _).mono ?_; rintro e w3 ⟨rfl, hb3⟩; obtain ⟨hc3, hf3⟩ := bcell hb3; have hz3 := hb3.size; have hl3 : w.heap.size < w3.heap.size := by omega)
    | (go_at_call 7; refine (value_ok hv _).mono ?_; rintro e w4 ⟨rfl, hb4⟩; obtain ⟨hc4, hf4⟩ := bcell hb4))
  go_ret
  refine ⟨rfl, ?_⟩
  exact (((((Below.refl w.heap.size w).alloc (Nat.le_refl _) (Obj.cells #[Value.float FloatKind.f64 4607182418800017408, Value.complex FloatKind.f64 0 0, Value.float FloatKind.f64 13830554455654793216] 28)).trans (hb1.mono (by simp))).trans (hb2.mono (by omega))).trans (hb3.mono (by omega))).trans (hb4.mono (by omega))
end Go.Proofs.Ytbgcamjmpcgjkaa
