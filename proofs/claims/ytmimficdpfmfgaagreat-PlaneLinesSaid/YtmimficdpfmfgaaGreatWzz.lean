/- Short names for laws that are used often. -/
import Derived.Below
import Derived.KernelRfl
set_option linter.all false
theorem kR.{u} {α : Sort u} {a b : α} (h : a = b := by kernel_rfl) : a = b := h
theorem dK {p : Prop} [Decidable p] (h : decide p = true := by kernel_rfl) : p := of_decide_eq_true h
def axa := @Array.getElem?_eq_some_iff
def axb := @List.getElem?_eq_some_iff
def axc := @Nat.lt_of_lt_of_le
def axd := @Nat.lt_of_le_of_lt
def axe := @List.take_of_length_le
def axf := @List.mem_cons_of_mem
def axg := @Nat.pow_le_pow_right
def axh := @Nat.eq_zero_or_pos
def axi := @List.getElem?_eq_getElem
def axj := @List.drop_eq_nil_of_le
def axk := @Rat.intCast_mul
def axl := @Nat.mul_le_mul_left
def axm := @Int.natAbs_mul
def axn := @Int.sign_eq_one_of_pos
def axo := @Int.sign_eq_neg_one_of_neg
def axp := @List.getElem?_set_ne
def axq := @List.mem_of_getElem?
def axr := @Nat.mul_le_mul
def axs := @Int.natAbs_natCast
def axt := @Rat.mul_eq_zero
def axu := @List.all_eq_true
def axv := @of_decide_eq_true
def axw := @Nat.le_trans
namespace Tr
open Go Go.RowKit
theorem nrA {α : Type} {l : List α} {i : Nat} {a : α} : l.toArray.setIfInBounds i a = (l.set i a).toArray := List.setIfInBounds_toArray ..
theorem nrB {α : Type} {l : List α} {a b : α} : (a :: l).set 0 b = b :: l := rfl
theorem nrC {α : Type} {l : List α} {a b : α} {n : Nat} : (a :: l).set (n + 1) b = a :: l.set n b := rfl
theorem br {n : Nat} {w : World} : Below n w w := Below.refl _ _
theorem lr {n : Nat} : n ≤ n := Nat.le_refl n
end Tr
