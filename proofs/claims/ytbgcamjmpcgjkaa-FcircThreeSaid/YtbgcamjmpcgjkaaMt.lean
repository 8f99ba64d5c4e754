/- math's small functions: the bits, Abs, IsNaN, IsInf, Sqrt; what is finite. -/
import Derived.Test.YtbgcamjmpcgjkaaFc
namespace Go.Proofs.Ytbgcamjmpcgjkaa
open Go.RowKit Tr

theorem bits_of (x : Nat) (w : World) : (callFunc 35 #[.float .f64 x]).run Try.prog w = .ok (.value (.int .u64 x)) w := by kernel_rfl
theorem of_bits (x : Int) (w : World) : (callFunc 34 #[.int .u64 x]).run Try.prog w = .ok (.value (.float .f64 x.toNat)) w := by kernel_rfl
theorem andNot_sign (x : Nat) (h : x < 2 ^ 64) : bits .andNot .u64 (x : Int) 9223372036854775808 = ((x % 2 ^ 63 : Nat) : Int) := by
  rw [u64_andNot _ _ (by omega) (by omega) (by omega) (by omega)]
  simp only [Int.toNat_natCast]
  rw [show (18446744073709551615 - (9223372036854775808 : Int).toNat) = 2 ^ 63 - 1 from rfl, Nat.and_two_pow_sub_one_eq_mod]
theorem abs_any {x : Nat} (h : x < 2 ^ 64) (w : World) :
    Calls Try.prog 30 #[.float .f64 x] w fun e w' => e = .returned (.float .f64 (x % 2 ^ 63)) ∧ w = w' := by
  have e1 := bits_of
  have e2 := of_bits
  have e3 := andNot_sign x h
  clear h
  go_enter Try.func30, Try.ntmps30
  go_wp2
  go_ret
  exact ⟨rfl, rfl⟩
theorem isnan_any (x : Nat) (w : World) :
    Calls Try.prog 31 #[.float .f64 x] w fun e w' => e = .returned (.bool (Ieee.double.order x x != some .eq)) ∧ w = w' := by
  go_enter Try.func31, Try.ntmps31
  go_wp2
  go_ret
  exact ⟨rfl, rfl⟩
theorem isinf0_any {x : Nat} (h : x < 2 ^ 64) (w : World) :
    Calls Try.prog 32 #[.float .f64 x, .int .i64 0] w fun e w' => e = .returned (.bool (Ieee.double.order (x % 2 ^ 63) 9218868437227405311 == some .gt)) ∧ w = w' := by
  go_enter Try.func32, Try.ntmps32
  go_wp2_with (go_at_call 30; refine (abs_any h _).mono ?_; rintro e w' ⟨rfl, rfl⟩)
  go_ret
  exact ⟨rfl, rfl⟩

/-- A finite float. -/
def Fin1 (x : Nat) : Prop := x < 2 ^ 64 ∧ (Ieee.double.order x x != some .eq) = false ∧ (Ieee.double.order (x % 2 ^ 63) 9218868437227405311 == some .gt) = false
theorem finite_ok {x : Nat} (h : Fin1 x) (w : World) :
    Calls Try.prog 24 #[.float .f64 x] w fun e w' => e = .returned (.bool true) ∧ w = w' := by
  obtain ⟨h0, h1, h2⟩ := h
  go_enter Try.func24, Try.ntmps24
  go_wp2_with (first | (go_at_call 31; refine (isnan_any _ _).mono ?_; rintro e w' ⟨rfl, rfl⟩; rw [h1]) | (go_at_call 32; refine (isinf0_any h0 _).mono ?_; rintro e w' ⟨rfl, rfl⟩; rw [h2]))
  go_ret
  exact ⟨rfl, rfl⟩
theorem Finite_ok {x y : Nat} (hx : Fin1 x) (hy : Fin1 y) (w : World) :
    Calls Try.prog 10 #[.complex .f64 x y] w fun e w' => e = .returned (.bool true) ∧ w = w' := by
  go_enter Try.func10, Try.ntmps10
  go_wp2_with (first | (go_at_call 24; refine (finite_ok hx _).mono ?_; clear hx; rintro e w' ⟨rfl, rfl⟩) | (go_at_call 24; refine (finite_ok hy _).mono ?_; rintro e w' ⟨rfl, rfl⟩))
  go_ret
  exact ⟨rfl, rfl⟩
end Go.Proofs.Ytbgcamjmpcgjkaa
