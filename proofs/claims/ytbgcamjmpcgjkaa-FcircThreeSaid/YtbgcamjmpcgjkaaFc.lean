/- The contracts of complex numbers' operations where each step is valid: the result is told, the world stays. -/
import Derived.Test.YtbgcamjmpcgjkaaRows
import Derived.Test.YtbgcamjmpcgjkaaFw
import Derived.WalkSpells
namespace Go.Proofs.Ytbgcamjmpcgjkaa
open Go.RowKit Tr

def CSub (a b c d r s : Nat) : Prop := VOp .sub a c r ∧ VOp .sub b d s
def CAdd (a b c d r s : Nat) : Prop := VOp .add a c r ∧ VOp .add b d s
def CScale (a b c r s : Nat) : Prop := VOp .mul a c r ∧ VOp .mul b c s
def CDot (a b c d r : Nat) : Prop := ∃ x y, VOp .mul a c x ∧ VOp .mul b d y ∧ VOp .add x y r
def CCross (a b c d r : Nat) : Prop := ∃ x y, VOp .mul a d x ∧ VOp .mul b c y ∧ VOp .sub x y r
def CMul (a b c d r s : Nat) : Prop := ∃ x y z u, VOp .mul a c x ∧ VOp .mul b d y ∧ VOp .mul a d z ∧ VOp .mul b c u ∧ VOp .sub x y r ∧ VOp .add z u s
def flip (x : Nat) : Nat := x ^^^ 2 ^ 63
theorem unary_neg (x : Nat) : Op.unary .neg (.float .f64 x) = pure (.float .f64 (flip x)) := rfl

theorem parts_any (a b : Nat) (w : World) :
    Calls Try.prog 26 #[.complex .f64 a b] w fun e w' => e = .returned (.tuple #[.float .f64 a, .float .f64 b]) ∧ w = w' := by
  go_enter Try.func26, Try.ntmps26
  go_wp2
  go_ret2
  exact ⟨rfl, rfl⟩

theorem sub_ok {a b c d r s : Nat} (h : CSub a b c d r s) (w : World) :
    Calls Try.prog 11 #[.complex .f64 a b, .complex .f64 c d] w fun e w' => e = .returned (.complex .f64 r s) ∧ w = w' := by
  obtain ⟨h1, h2⟩ := h
  go_enter Try.func11, Try.ntmps11
  go_wp2_with (refine wpList_fok rfl _ _ _ _ _ rfl _ _ rfl rfl (by assumption) ?_)
  go_ret
  exact ⟨rfl, rfl⟩

theorem add_ok {a b c d r s : Nat} (h : CAdd a b c d r s) (w : World) :
    Calls Try.prog 22 #[.complex .f64 a b, .complex .f64 c d] w fun e w' => e = .returned (.complex .f64 r s) ∧ w = w' := by
  obtain ⟨h1, h2⟩ := h
  go_enter Try.func22, Try.ntmps22
  go_wp2_with (refine wpList_fok rfl _ _ _ _ _ rfl _ _ rfl rfl (by assumption) ?_)
  go_ret
  exact ⟨rfl, rfl⟩

theorem scale_ok {a b c r s : Nat} (h : CScale a b c r s) (w : World) :
    Calls Try.prog 12 #[.complex .f64 a b, .float .f64 c] w fun e w' => e = .returned (.complex .f64 r s) ∧ w = w' := by
  obtain ⟨h1, h2⟩ := h
  go_enter Try.func12, Try.ntmps12
  go_wp2_with (refine wpList_fok rfl _ _ _ _ _ rfl _ _ rfl rfl (by assumption) ?_)
  go_ret
  exact ⟨rfl, rfl⟩

theorem dot_ok {a b c d r : Nat} (h : CDot a b c d r) (w : World) :
    Calls Try.prog 25 #[.complex .f64 a b, .complex .f64 c d] w fun e w' => e = .returned (.float .f64 r) ∧ w = w' := by
  obtain ⟨x, y, h1, h2, h3⟩ := h
  go_enter Try.func25, Try.ntmps25
  go_wp2_with (refine wpList_fok rfl _ _ _ _ _ rfl _ _ rfl rfl (by assumption) ?_)
  go_ret
  exact ⟨rfl, rfl⟩

theorem abs2_ok {a b r : Nat} (h : CDot a b a b r) (w : World) :
    Calls Try.prog 13 #[.complex .f64 a b] w fun e w' => e = .returned (.float .f64 r) ∧ w = w' := by
  go_enter Try.func13, Try.ntmps13
  go_wp2_with (go_at_call 25; refine (dot_ok h _).mono ?_; rintro e w' ⟨rfl, rfl⟩)
  go_ret
  exact ⟨rfl, rfl⟩

theorem cross_ok {a b c d r : Nat} (h : CCross a b c d r) (w : World) :
    Calls Try.prog 14 #[.complex .f64 a b, .complex .f64 c d] w fun e w' => e = .returned (.float .f64 r) ∧ w = w' := by
  obtain ⟨x, y, h1, h2, h3⟩ := h
  go_enter Try.func14, Try.ntmps14
  go_wp2_with (refine wpList_fok rfl _ _ _ _ _ rfl _ _ rfl rfl (by assumption) ?_)
  go_ret
  exact ⟨rfl, rfl⟩

theorem mul_ok {a b c d r s : Nat} (h : CMul a b c d r s) (w : World) :
    Calls Try.prog 16 #[.complex .f64 a b, .complex .f64 c d] w fun e w' => e = .returned (.complex .f64 r s) ∧ w = w' := by
  obtain ⟨x, y, z, u, h1, h2, h3, h4, h5, h6⟩ := h
  go_enter Try.func16, Try.ntmps16
  go_wp2_with (first | (go_at_call 26; refine (parts_any _ _ _).mono ?_; rintro e w' ⟨rfl, rfl⟩) | (refine wpList_fok rfl _ _ _ _ _ rfl _ _ rfl rfl (by assumption) ?_))
  go_ret
  exact ⟨rfl, rfl⟩

theorem conj_any (a b : Nat) (w : World) :
    Calls Try.prog 15 #[.complex .f64 a b] w fun e w' => e = .returned (.complex .f64 a (flip b)) ∧ w = w' := by
  have hn := unary_neg
  go_enter Try.func15, Try.ntmps15
  go_wp2
  go_ret
  exact ⟨rfl, rfl⟩

theorem neg_any (a b : Nat) (w : World) :
    Calls Try.prog 20 #[.complex .f64 a b] w fun e w' => e = .returned (.complex .f64 (flip a) (flip b)) ∧ w = w' := by
  have hn := unary_neg
  go_enter Try.func20, Try.ntmps20
  go_wp2
  go_ret
  exact ⟨rfl, rfl⟩
end Go.Proofs.Ytbgcamjmpcgjkaa
