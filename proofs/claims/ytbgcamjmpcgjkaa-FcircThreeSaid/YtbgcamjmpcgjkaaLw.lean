/- FcircThree: the circle through any three whole points has them on it; what moves nothing changes it in nothing but noughts' signs. No condition. -/
import Derived.Test.YtbgcamjmpcgjkaaPl
import Derived.Test.YtbgcamjmpcgjkaaKn
namespace Go.Proofs.Ytbgcamjmpcgjkaa
open Go.RowKit Go.Shelf Tr

theorem small_ok (n : Int) (w : World) :
    Calls Try.prog 4 #[.int .i64 n, .int .i64 1024] w fun e w' => e = .returned (.int .i64 (n.tmod 1025)) ∧ w = w' := by
  go_enter Try.func4, Try.ntmps4
  go_wp2
  go_ret
  exact ⟨rfl, rfl⟩

/-- Equality of two circles by floats. -/
theorem eq_circ (a b c d e f g h : Nat) (w : World) : (binOp .eql 28 (.agg #[.float .f64 a, .complex .f64 b c, .float .f64 d]) (.agg #[.float .f64 e, .complex .f64 f g, .float .f64 h])).run Try.prog w
    = .ok (.bool (Ieee.double.order a e == some .eq && ((Ieee.double.order b f == some .eq && Ieee.double.order c g == some .eq) && Ieee.double.order d h == some .eq))) w := by
  have hS : (Try.prog).underlying 28 = some (.struct ((Try.prog).fieldsOf 28)) := by kernel_rfl
  have hp : (Try.prog).stoodInHeld 28 = false := by kernel_rfl
  have u25 := Try.underlying25
  have u24 := Try.underlying24
  have k1 : ∀ (d : Nat) (x y : Nat) (w : World), (Op.equalIn (d + 1) 25 (.float .f64 x) (.float .f64 y)).run Try.prog w = .ok (Ieee.double.order x y == some .eq) w := fun d x y w => by
    simp [Op.equalIn, run_underlying u25]; rfl
  have k2 : ∀ (d : Nat) (x y z u : Nat) (w : World), (Op.equalIn (d + 1) 24 (.complex .f64 x y) (.complex .f64 z u)).run Try.prog w = .ok (Ieee.double.order x z == some .eq && Ieee.double.order y u == some .eq) w := fun d x y z u w => by
    simp [Op.equalIn, run_underlying u24]; rfl
  rw [run_eql_struct, show (10000 : Nat) = 9999 + 1 from rfl, run_equalIn_agg (P := Try.prog) w 9999 28 _ _ hS hp]
  simp only [Program.fieldsOf, Try.underlying28]
  go_simp
  by_cases h1 : Ieee.double.order a e = some .eq <;> by_cases h2 : Ieee.double.order b f = some .eq <;> by_cases h3 : Ieee.double.order c g = some .eq <;> by_cases h4 : Ieee.double.order d h = some .eq <;> simp [h1, h2, h3, h4]

theorem sb_small (n : Int) : SB 0 (floatOfInt .f64 (n.tmod 1025)) (n.tmod 1025) 1024 := by
  have hb : (n.tmod 1025).natAbs ≤ 1024 := by
    rw [Int.natAbs_tmod]; have := Nat.mod_lt n.natAbs (show 0 < (1025 : Int).natAbs by decide); have e : (1025 : Int).natAbs = 1025 := rfl; omega
  exact ⟨sc_int _ (by omega), hb⟩
theorem lt_of_int (n : Int) : floatOfInt .f64 n < 2 ^ 64 := by
  have := floatOfInt_wf .f64 n
  simp [Lit.wf] at this
  exact this
theorem rd_bound {s t : Bool} {y m : Nat} {e : Int} (h : rd s y = .number t m e) : t = s ∧ rd false y = .number false m e ∧ m ≤ 9007199254740991 ∧ e ≤ 971 := by
  unfold rd at h ⊢
  by_cases c1 : y < Ieee.double.binade
  · rw [if_pos c1] at h ⊢
    rw [bn] at c1
    simp only [Ieee.Datum.number.injEq] at h ⊢
    obtain ⟨h1, h2, h3⟩ := h
    rw [lp] at h3
    exact ⟨h1.symm, ⟨trivial, h2, by rw [lp]; exact h3⟩, by omega, by omega⟩
  · rw [if_neg c1] at h ⊢
    by_cases c2 : y < Ieee.double.infRung
    · rw [if_pos c2] at h ⊢
      rw [bn] at c1
      rw [ir] at c2
      simp only [Ieee.Datum.number.injEq] at h ⊢
      obtain ⟨h1, h2, h3⟩ := h
      refine ⟨h1.symm, ⟨trivial, h2, h3⟩, ?_, ?_⟩
      · rw [bn] at h2; omega
      · rw [bn, lp] at h3; omega
    · rw [if_neg c2] at h
      by_cases c3 : y = Ieee.double.infRung
      · rw [if_pos c3] at h; cases h
      · rw [if_neg c3] at h; cases h
theorem fin_of_ex {x : Nat} {v : Int} (hx : Ex x v) (hlt : x < 2 ^ 64) : Fin1 x := by
  refine ⟨hlt, ?_, ?_⟩
  · rw [order_exact hx hx]
    have : compare v v = .eq := by simp
    rw [this]; rfl
  · obtain ⟨s, m, e, hr, he, hv⟩ := hx
    rw [read_rd] at hr
    obtain ⟨rfl, hf, hm, he2⟩ := rd_bound hr
    have h1 : Ieee.double.read (x % 2 ^ 63) = .number false m e := by
      rw [read_rd]
      have e1 : x % 2 ^ 63 % 9223372036854775808 = x % 9223372036854775808 := by omega
      have e2 : (x % 2 ^ 63 / 9223372036854775808 % 2 == 1) = false := by
        have : x % 2 ^ 63 / 9223372036854775808 = 0 := by omega
        rw [this]; rfl
      rw [e1, e2, hf]
    have h2 : Ieee.double.read 9218868437227405311 = .number false 9007199254740991 971 := by decide +kernel
    unfold Ieee.Format.order
    rw [h1, h2]
    show (some (compare (Ieee.signed false m (e - min e 971).toNat) (Ieee.signed false 9007199254740991 (971 - min e 971).toNat)) == some .gt) = false
    have e3 : (e - min e 971).toNat = 0 := by omega
    rw [e3, signed_eq, signed_eq]
    have hle : (m * 2 ^ 0 : Nat) ≤ 9007199254740991 * 2 ^ (971 - min e 971).toNat := by
      have := Nat.one_le_two_pow (n := (971 - min e 971).toNat)
      calc m * 2 ^ 0 ≤ 9007199254740991 * 1 := by simpa using hm
        _ ≤ _ := Nat.mul_le_mul_left _ this
    simp only [Bool.false_eq_true, if_false]
    generalize 9007199254740991 * 2 ^ (971 - min e 971).toNat = M at hle
    rw [compare_int]
    split
    · rfl
    · split
      · rfl
      · omega
/-- A whole number that a double has is finite. -/
theorem fin_of_sb {x : Nat} {h : Int} {b : Nat} (hx : SB 0 x h b) (hlt : x < 2 ^ 64) : Fin1 x := fin_of_ex hx.1 hlt

set_option maxHeartbeats 1000000 in
theorem law_zero (n1 n2 n3 n4 n5 n6 : Int) (w : World) {A B1 B2 C : Nat}
    (hC : CThr (floatOfInt .f64 (n1.tmod 1025)) (floatOfInt .f64 (n2.tmod 1025)) (floatOfInt .f64 (n3.tmod 1025)) (floatOfInt .f64 (n4.tmod 1025)) (floatOfInt .f64 (n5.tmod 1025)) (floatOfInt .f64 (n6.tmod 1025)) A B1 B2 C)
    (hz : (Ieee.double.order A 0 == some .eq && (Ieee.double.order B1 0 == some .eq && Ieee.double.order B2 0 == some .eq)) = true) :
    Calls Try.prog 3 #[.agg #[.int .i64 n1, .int .i64 n2, .int .i64 n3, .int .i64 n4, .int .i64 n5, .int .i64 n6]] w fun e w' => e = .returned (.bool true) ∧ Below w.heap.size w w' := by
  have f1 := fin_of_sb (sb_small n1) (lt_of_int _)
  have f2 := fin_of_sb (sb_small n2) (lt_of_int _)
  have f3 := fin_of_sb (sb_small n3) (lt_of_int _)
  have f4 := fin_of_sb (sb_small n4) (lt_of_int _)
  have f5 := fin_of_sb (sb_small n5) (lt_of_int _)
  have f6 := fin_of_sb (sb_small n6) (lt_of_int _)
  have ht := fun w => through_zero hC f1 f2 f3 f4 f5 f6 hz w
  have HT := Lib.hid ht
  clear ht hz hC f1 f2 f3 f4 f5 f6
  have q0 : (Ieee.double.order 0 0 == some .eq) = true := by decide +kernel
  have he := fun w => eq_circ 0 0 0 0 0 0 0 0 w
  rw [q0] at he
  simp only [Bool.and_self] at he
  go_enter Try.func3, Try.ntmps3
  go_wp2
  go_quiet ((go_at_call 4; exact quiet_eq (small_ok _ _)))
  go_wp2
  go_quiet ((go_at_call 4; exact quiet_eq2 (small_ok _ _)))
  go_wp2
  go_quiet ((go_at_call 4; exact quiet_eq2 (small_ok _ _)))
  go_wp2_with (first | (go_at_call 5; refine (HT.out _).mono ?_; rintro e w1 ⟨rfl, hb1⟩) | (go_at_call 6; refine (known_ok _).mono ?_; rintro e w2 ⟨rfl, hb2⟩))
  go_ret
  refine ⟨rfl, ?_⟩
  have hs1 := hb1.size
  simp at hs1
  exact ((((below_drewN ((Below.refl w.heap.size w).alloc (Nat.le_refl _) (Obj.cells #[Value.int IntKind.i64 n1, Value.int IntKind.i64 n2, Value.int IntKind.i64 n3, Value.int IntKind.i64 n4, Value.int IntKind.i64 n5, Value.int IntKind.i64 n6] 23)) _).trans (hb1.mono (by simp))).alloc (by omega) _).trans (hb2.mono (by simp; omega)))

set_option maxHeartbeats 2000000 in
theorem law_some (n1 n2 n3 n4 n5 n6 : Int) (w : World) {A B1 B2 C v1 v2 v3 A' D1 D2 C' : Nat}
    (hC : CThr (floatOfInt .f64 (n1.tmod 1025)) (floatOfInt .f64 (n2.tmod 1025)) (floatOfInt .f64 (n3.tmod 1025)) (floatOfInt .f64 (n4.tmod 1025)) (floatOfInt .f64 (n5.tmod 1025)) (floatOfInt .f64 (n6.tmod 1025)) A B1 B2 C)
    (hz : (Ieee.double.order A 0 == some .eq && (Ieee.double.order B1 0 == some .eq && Ieee.double.order B2 0 == some .eq)) = false)
    (h1 : CVal A B1 B2 C (floatOfInt .f64 (n1.tmod 1025)) (floatOfInt .f64 (n2.tmod 1025)) v1) (h2 : CVal A B1 B2 C (floatOfInt .f64 (n3.tmod 1025)) (floatOfInt .f64 (n4.tmod 1025)) v2) (h3 : CVal A B1 B2 C (floatOfInt .f64 (n5.tmod 1025)) (floatOfInt .f64 (n6.tmod 1025)) v3)
    (z1 : (FloatKind.f64.format.order v1 0 != some .eq) = false) (z2 : (FloatKind.f64.format.order v2 0 != some .eq) = false) (z3 : (FloatKind.f64.format.order v3 0 != some .eq) = false)
    (hI : CImg A B1 B2 C A' D1 D2 C') (e1 : (Ieee.double.order A' A == some .eq) = true) (e2 : (Ieee.double.order D1 B1 == some .eq) = true) (e3 : (Ieee.double.order D2 B2 == some .eq) = true) (e4 : (Ieee.double.order C' C == some .eq) = true) :
    Calls Try.prog 3 #[.agg #[.int .i64 n1, .int .i64 n2, .int .i64 n3, .int .i64 n4, .int .i64 n5, .int .i64 n6]] w fun e w' => e = .returned (.bool true) ∧ Below w.heap.size w w' := by
  have f1 := fin_of_sb (sb_small n1) (lt_of_int _)
  have f2 := fin_of_sb (sb_small n2) (lt_of_int _)
  have f3 := fin_of_sb (sb_small n3) (lt_of_int _)
  have f4 := fin_of_sb (sb_small n4) (lt_of_int _)
  have f5 := fin_of_sb (sb_small n5) (lt_of_int _)
  have f6 := fin_of_sb (sb_small n6) (lt_of_int _)
  have ht := fun w => through_ok hC f1 f2 f3 f4 f5 f6 hz w
  have HT := Lib.hid ht
  clear ht hz hC f1 f2 f3 f4 f5 f6
  have he := fun w => eq_circ A' D1 D2 C' A B1 B2 C w
  rw [e1, e2, e3, e4] at he
  simp only [Bool.and_self] at he
  clear e1 e2 e3 e4
  go_enter Try.func3, Try.ntmps3
  go_wp2
  go_quiet ((go_at_call 4; exact quiet_eq (small_ok _ _)))
  go_wp2
  go_quiet ((go_at_call 4; exact quiet_eq2 (small_ok _ _)))
  go_wp2
  go_quiet ((go_at_call 4; exact quiet_eq2 (small_ok _ _)))
  go_wp2_with (first
    | (go_at_call 5; refine (HT.out _).mono ?_; clear HT; rintro e w1 ⟨rfl, hb1⟩)
    | (go_at_call 7; refine (value_ok h1 _).mono ?_; clear h1; rintro e w2 ⟨rfl, hb2⟩; obtain ⟨hc2, hf2⟩ := bcell hb2; have hs2 := hb2.size; simp at hs2; have hl2 : w1.heap.size < w2.heap.size := by omega)
    | (go_at_call 7; refine (value_ok h2 _).mono ?_; clear h2; rintro e w3 ⟨rfl, hb3⟩; obtain ⟨hc3, hf3⟩ := bcell hb3; have hs3 := hb3.size; have hl3 : w1.heap.size < w3.heap.size := by omega)
    | (go_at_call 7; refine (value_ok h3 _).mono ?_; clear h3; rintro e w4 ⟨rfl, hb4⟩; obtain ⟨hc4, hf4⟩ := bcell hb4; have hs4 := hb4.size; have hl4 : w1.heap.size < w4.heap.size := by omega))
  have c0 : w4.cell? ⟨w1.heap.size, 0, none⟩ = some (.float .f64 A) ∧ w4.cell? ⟨w1.heap.size, 1, none⟩ = some (.complex .f64 B1 B2) ∧ w4.cell? ⟨w1.heap.size, 2, none⟩ = some (.float .f64 C) := by
    rw [hc4 _ _ hl3, hc4 _ _ hl3, hc4 _ _ hl3, hc3 _ _ hl2, hc3 _ _ hl2, hc3 _ _ hl2, hc2 _ _ (by simp), hc2 _ _ (by simp), hc2 _ _ (by simp)]
    simp [go_sem]
  obtain ⟨c0, c1, c2⟩ := c0
  have hB4 : Below w.heap.size w w4 := by
    have hs1 := hb1.size
    simp at hs1
    exact ((((below_drewN ((Below.refl w.heap.size w).alloc (Nat.le_refl _) (Obj.cells #[Value.int IntKind.i64 n1, Value.int IntKind.i64 n2, Value.int IntKind.i64 n3, Value.int IntKind.i64 n4, Value.int IntKind.i64 n5, Value.int IntKind.i64 n6] 23)) _).trans (hb1.mono (by simp))).alloc (by omega) _).trans (hb2.mono (by simp; omega))).trans ((hb3.mono (by omega)).trans (hb4.mono (by omega)))
  have hlt : w1.heap.size < w4.heap.size := hl4
  have hlw : w.heap.size ≤ w4.heap.size := hB4.size
  clear hc2 hc3 hc4 hf2 hf3 hf4 hb1 hb2 hb3 hb4 hs2 hs3 hs4 hl2 hl3 hl4
  go_region_held3 (fun w' => w'.cell? ⟨w1.heap.size, 0, none⟩ = some (.float .f64 A) ∧ w'.cell? ⟨w1.heap.size, 1, none⟩ = some (.complex .f64 B1 B2) ∧ w'.cell? ⟨w1.heap.size, 2, none⟩ = some (.float .f64 C)) ((first | (refine ⟨?_, ?_, ?_⟩ <;> (rw [hc5 _ _ (by first | exact hlt | (simp; omega))]; first | assumption | simpa using ‹_›)) | (refine ⟨?_, ?_, ?_⟩ <;> (rw [hc6 _ _ hl5]; first | assumption | simpa using ‹_›)) | go_keep))
    (first | (go_at_call 8; refine (image_ok hI _).mono ?_; rintro e w5 ⟨rfl, hb5⟩; obtain ⟨hc5, hf5⟩ := bcell hb5; have hz5 := hb5.size; simp at hz5; have hl5 : w1.heap.size < w5.heap.size := by omega) | (go_at_call 6; refine (known_ok _).mono ?_; rintro e w6 ⟨rfl, hb6⟩; obtain ⟨hc6, hf6⟩ := bcell hb6))
  go_wp2
  go_ret
  refine ⟨rfl, ?_⟩
  exact hB4.trans ((Below.trans (below_drewN (Below.refl w.heap.size w4) 1) (hb5.mono (by simp; omega))).trans (hb6.mono (by omega)))

/-- At whatever six whole numbers: true. -/
theorem law_ok (n1 n2 n3 n4 n5 n6 : Int) (w : World) :
    Calls Try.prog 3 #[.agg #[.int .i64 n1, .int .i64 n2, .int .i64 n3, .int .i64 n4, .int .i64 n5, .int .i64 n6]] w fun e w' => e = .returned (.bool true) ∧ Below w.heap.size w w' := by
  obtain ⟨A, B1, B2, C, hC, sA, sB1, sB2, sC⟩ := circ_exact (sb_small n1) (sb_small n2) (sb_small n3) (sb_small n4) (sb_small n5) (sb_small n6) (lt_of_int _)
  cases hz : (Ieee.double.order A 0 == some .eq && (Ieee.double.order B1 0 == some .eq && Ieee.double.order B2 0 == some .eq)) with
  | true => exact law_zero n1 n2 n3 n4 n5 n6 w hC hz
  | false =>
    obtain ⟨v1, h1, s1⟩ := cval_exact sA sB1 sB2 sC (sb_small n1) (sb_small n2)
    obtain ⟨v2, h2, s2⟩ := cval_exact sA sB1 sB2 sC (sb_small n3) (sb_small n4)
    obtain ⟨v3, h3, s3⟩ := cval_exact sA sB1 sB2 sC (sb_small n5) (sb_small n6)
    rw [zv_p] at s1
    rw [zv_q] at s2
    rw [zv_r] at s3
    have hlt : B2 < 2 ^ 64 := by
      obtain ⟨a1, a2, b1, b2, u, v, s1, s2, t1, t2, g1, g2, e1, e2, k1, k2, x1, x2, m, n, y, _, _, _, _, _, _, _, _, _, _, h11, _⟩ := hC.ex
      exact h11.2.lt
    obtain ⟨A', D1, D2, C', hI, tA, tB1, tB2, tC⟩ := cimg_exact sA sB1 sB2 sC hlt
    have ne : ∀ v : Nat, Sc 1 v 0 → (FloatKind.f64.format.order v 0 != some .eq) = false := fun v hv => by
      show (Ieee.double.order v 0 != some .eq) = false
      rw [sc_eq hv (sc_zero 1)]; rfl
    have yes : ∀ x y : Nat, ∀ h : Int, Sc 1 x h → Sc 1 y h → (Ieee.double.order x y == some .eq) = true := fun x y h hx hy => by
      rw [sc_eq hx hy]; rfl
    exact law_some n1 n2 n3 n4 n5 n6 w hC hz h1 h2 h3 (ne _ s1) (ne _ s2) (ne _ s3) hI (yes _ _ _ tA (sb_wide sA (by decide)).1) (yes _ _ _ tB1 sB1.1) (yes _ _ _ tB2 sB2.1) (yes _ _ _ tC sC.1)
end Go.Proofs.Ytbgcamjmpcgjkaa
