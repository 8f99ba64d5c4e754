/- Short names for laws that are used often. -/
import Derived.Below
namespace Tr
open Go Go.RowKit
theorem nrA {α : Type} {l : List α} {i : Nat} {a : α} : l.toArray.setIfInBounds i a = (l.set i a).toArray := List.setIfInBounds_toArray ..
theorem nrB {α : Type} {l : List α} {a b : α} : (a :: l).set 0 b = b :: l := rfl
theorem nrC {α : Type} {l : List α} {a b : α} {n : Nat} : (a :: l).set (n + 1) b = a :: l.set n b := rfl
theorem br {n : Nat} {w : World} : Below n w w := Below.refl _ _
theorem lr {n : Nat} : n ≤ n := Nat.le_refl n
end Tr
