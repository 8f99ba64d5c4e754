/- The walks of fcirc at numbers whose operations are all valid. -/
import Derived.Test.YtbgcamjmpcgjkaaFc
namespace Go.Proofs.Ytbgcamjmpcgjkaa
open Go.RowKit Tr

def CVal (A br bi C zr zi r : Nat) : Prop := ∃ u vr vi s t q, CDot zr zi zr zi u ∧ CMul br bi zr zi vr vi ∧ VOp .mul A u s ∧ VOp .add vr vr t ∧ VOp .add s t q ∧ VOp .add q C r

theorem value_ok {A br bi C zr zi r : Nat} (h : CVal A br bi C zr zi r) (w : World) :
    Calls Try.prog 7 #[.agg #[.float .f64 A, .complex .f64 br bi, .float .f64 C], .complex .f64 zr zi] w fun e w' => e = .returned (.float .f64 r) ∧ Below w.heap.size w w' := by
  obtain ⟨u, vr, vi, s, t, q, h1, h2, h3, h4, h5, h6⟩ := h
  go_enter Try.func7, Try.ntmps7
  go_wp2
  go_quiet ((first | (go_at_call 13; exact quiet_eq (abs2_ok h1 _)) | (go_at_call 16; exact quiet_eq (mul_ok h2 _))))
  go_wp2_with (refine wpList_fok rfl _ _ _ _ _ rfl _ _ rfl rfl (by assumption) ?_)
  go_ret
  exact ⟨rfl, below_drewN ((Below.refl _ _).alloc (Nat.le_refl _) _) _⟩
end Go.Proofs.Ytbgcamjmpcgjkaa
