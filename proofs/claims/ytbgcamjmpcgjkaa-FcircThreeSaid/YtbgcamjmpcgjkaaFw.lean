/- The walk's laws on floats: '+', '-', '*', '/' at all operands: the result is the model's own, or some NaN, and at most a draw has been made. -/
import Derived.WalkKit
import Derived.WalkLawsBesides
import Derived.Laws.FloatArith
import Derived.Deep.Draws
import Derived.Deep.QuietTactic
import Derived.BigQuiet
import Derived.StillTailTactics
import Derived.Test.YtbgcamjmpcgjkaaFl
namespace Tr
open Go

def isNan (x : Nat) : Bool := (Ieee.double.read x).isNaN

/-- What an operation on floats may give. -/
def FRes (op : BinOp) (x y r : Nat) : Prop := r < 2 ^ 64 ∧ match floatBits op .f64 x y with | some v => r = v | none => isNan r = true

theorem nan_of_cut (t : Nat) : isNan ((t % 2) * 2 ^ 63 + 0x7ff0000000000000 + 1 + (t / 2) % (2 ^ 52 - 1)) = true := by
  have h1 : ((t % 2) * 2 ^ 63 + 0x7ff0000000000000 + 1 + (t / 2) % (2 ^ 52 - 1)) % 9223372036854775808 = 0x7ff0000000000000 + 1 + (t / 2) % (2 ^ 52 - 1) := by omega
  unfold isNan Ieee.Format.read
  simp only [sw, bn, ir, lp, h1]
  rw [if_neg (by omega), if_neg (by omega), if_neg (by omega)]
  rfl

theorem run_farith {P : Program} (w : World) (op : BinOp) (hop : op = .add ∨ op = .sub ∨ op = .mul ∨ op = .quo) (t : TypeId) (x y : Nat) :
    ∃ r n, (binOp op t (.float .f64 x) (.float .f64 y)).run P w = .ok (.float .f64 r) (w.drewN n) ∧ FRes op x y r := by
  cases h : floatBits op .f64 x y with
  | some v =>
    exact ⟨v, 0, run_float_arith w op t .f64 x y v h, by
      have := floatBits_wf h
      simp [Lit.wf] at this
      exact this, by simp only [h]⟩
  | none =>
    have hlt := Nat.mod_lt (w.tape w.drawn (.nanBits .f64 x y)) (show 0 < 2 by decide)
    have hlt2 := Nat.mod_lt (w.tape w.drawn (.nanBits .f64 x y) / 2) (show 0 < 2 ^ 52 - 1 by decide)
    refine ⟨Question.cut (.nanBits .f64 x y) (w.tape w.drawn (.nanBits .f64 x y)), 1, ?_, ?_, ?_⟩
    · unfold floatBits at h
      rcases hop with rfl | rfl | rfl | rfl <;> simp only at h <;> simp [binOp, Op.floatArith, h, Question.forced] <;> rfl
    · show _ * 2 ^ 63 + 0x7ff0000000000000 + 1 + _ < _
      omega
    · simp only [h]
      exact nan_of_cut _

/-- '+', '-', '*', '/' met by the walk. -/
theorem wpList_farith {P : Program} {ops : Array Oper} {rest : List Oper} {o : Oper} {a : Act} {w : World} {Q : Exit → Act → World → Prop} (hgd : o.guard = none)
    (op : BinOp) (t ty : TypeId) (x y : Operand) (ho : o.op = .binOp op t x y ty) (hop : op = .add ∨ op = .sub ∨ op = .mul ∨ op = .quo) (bx by_ : Nat)
    (hx : a.eval x = .float .f64 bx) (hy : a.eval y = .float .f64 by_)
    (h : ∀ r n, FRes op bx by_ r → wpList P ops Q rest (a.put o.dst (.float .f64 r)) (w.drewN n)) : wpList P ops Q (o :: rest) a w :=
  wpList_plain hgd fun _ hK => by
    obtain ⟨r, n, hr, hf⟩ := run_farith (P := P) w op hop t bx by_
    have hg : eqGuard op t x y (.float .f64 bx) (.float .f64 by_) = pure () := by
      rcases hop with rfl | rfl | rfl | rfl <;> rfl
    unfold Oper.wp execOp
    simp only [ho, hx, hy, hg, Sem.run_bind, Sem.run_pure, Result.andThen_ok, hr]
    exact hK _ _ (h r n hf)

theorem fres_add {k x y r : Nat} {a b : Int} (ha : Sc k x a) (hb : Sc k y b) (h : (a + b).natAbs < 2 ^ 53) (hr : FRes .add x y r) : Sc k r (a + b) := by
  obtain ⟨v, hv, hs⟩ := sc_add ha hb h
  have := hr.2
  rw [show floatBits .add .f64 x y = some v from hv] at this
  exact this ▸ hs
theorem fres_sub {k x y r : Nat} {a b : Int} (ha : Sc k x a) (hb : Sc k y b) (h : (a - b).natAbs < 2 ^ 53) (hr : FRes .sub x y r) : Sc k r (a - b) := by
  obtain ⟨v, hv, hs⟩ := sc_sub ha hb h
  have := hr.2
  rw [show floatBits .sub .f64 x y = some v from hv] at this
  exact this ▸ hs
theorem fres_mul {j k x y r : Nat} {a b : Int} (ha : Sc j x a) (hb : Sc k y b) (hjk : j + k ≤ 1074) (h : (a * b).natAbs < 2 ^ 53) (hr : FRes .mul x y r) : Sc (j + k) r (a * b) := by
  obtain ⟨v, hv, hs⟩ := sc_mul ha hb hjk h
  have := hr.2
  rw [show floatBits .mul .f64 x y = some v from hv] at this
  exact this ▸ hs
/-- The operation is valid, and gives r. -/
def VOp (op : BinOp) (x y r : Nat) : Prop := floatBits op .f64 x y = some r

/-- '+', '-', '*', '/' met by the walk, where the operation is valid. -/
theorem wpList_fok {P : Program} {ops : Array Oper} {rest : List Oper} {o : Oper} {a : Act} {w : World} {Q : Exit → Act → World → Prop} (hgd : o.guard = none)
    (op : BinOp) (t ty : TypeId) (x y : Operand) (ho : o.op = .binOp op t x y ty) (bx by_ : Nat) {r : Nat}
    (hx : a.eval x = .float .f64 bx) (hy : a.eval y = .float .f64 by_) (hv : VOp op bx by_ r)
    (h : wpList P ops Q rest (a.put o.dst (.float .f64 r)) w) : wpList P ops Q (o :: rest) a w :=
  wpList_plain hgd fun _ hK => by
    have hr := run_float_arith (P := P) w op t .f64 bx by_ r hv
    have hg : eqGuard op t x y (.float .f64 bx) (.float .f64 by_) = pure () := by
      unfold VOp floatBits at hv
      cases op <;> simp only at hv <;> first | rfl | (cases hv; done)
    unfold Oper.wp execOp
    simp only [ho, hx, hy, hg, Sem.run_bind, Sem.run_pure, Result.andThen_ok, hr]
    exact hK _ _ h

theorem VOp.run {P : Program} {op : BinOp} {x y r : Nat} (h : VOp op x y r) (t : TypeId) (w : World) : (binOp op t (.float .f64 x) (.float .f64 y)).run P w = .ok (.float .f64 r) w :=
  run_float_arith w op t .f64 x y r h
theorem VOp.lt {op : BinOp} {x y r : Nat} (h : VOp op x y r) : r < 2 ^ 64 := by
  have := floatBits_wf h
  simp [Lit.wf] at this
  exact this

theorem vadd {k x y : Nat} {a b : Int} (ha : Sc k x a) (hb : Sc k y b) (h : (a + b).natAbs < 2 ^ 53) : ∃ r, VOp .add x y r ∧ Sc k r (a + b) := sc_add ha hb h
theorem vsub {k x y : Nat} {a b : Int} (ha : Sc k x a) (hb : Sc k y b) (h : (a - b).natAbs < 2 ^ 53) : ∃ r, VOp .sub x y r ∧ Sc k r (a - b) := sc_sub ha hb h
theorem vmul {j k x y : Nat} {a b : Int} (ha : Sc j x a) (hb : Sc k y b) (hjk : j + k ≤ 1074) (h : (a * b).natAbs < 2 ^ 53) : ∃ r, VOp .mul x y r ∧ Sc (j + k) r (a * b) := sc_mul ha hb hjk h
/-- A callee that leaves the world as it is, in a region that draws its order. -/
theorem quiet_eq {P : Program} {f : FuncId} {args : Array Value} {w : World} {n : Nat} {v : Value}
    (h : Calls P f args (w.drewN n) fun e w' => e = .returned v ∧ w.drewN n = w') : Calls P f args (w.drewN n) fun e w'' => e = .returned v ∧ ∃ m, w'' = w.drewN m :=
  h.mono fun _ _ ⟨he, hm⟩ => ⟨he, n, hm.symm⟩

/-- '==' on complex numbers. -/
theorem run_ceql {P : Program} (t : TypeId) (a b c d : Nat) (w : World) : (binOp .eql t (.complex .f64 a b) (.complex .f64 c d)).run P w = .ok (.bool (Ieee.double.order a c == some .eq && Ieee.double.order b d == some .eq)) w := by
  have h1 : ∀ x y : Nat, ∀ w : World, (Op.Complex.cmp .eql .f64 x y).run P w = .ok (Ieee.double.order x y == some .eq) w := fun x y w => rfl
  simp only [binOp, Op.complexOp]
  cases h : (Ieee.double.order a c == some .eq) <;> simp [h1, h]

@[go_sem] theorem run_store_float {P : Program} {w : World} {a : Addr} {m : Mode} (k : FloatKind) (b : Nat) : (store a (.float k b) m).run P w = stored P w a (.float k b) m := run_store P w a _ m rfl
@[go_sem] theorem run_store_complex {P : Program} {w : World} {a : Addr} {m : Mode} (k : FloatKind) (x y : Nat) : (store a (.complex k x y) m).run P w = stored P w a (.complex k x y) m := run_store P w a _ m rfl

theorem still_eq {P : Program} {f : FuncId} {args : Array Value} {w : World} {v : Value}
    (h : Calls P f args w fun e w' => e = .returned v ∧ w = w') : Calls P f args w fun e w'' => e = .returned v ∧ w'' = w :=
  h.mono fun _ _ ⟨he, hm⟩ => ⟨he, hm.symm⟩

/-- A region that draws its order, all but whose tail leaves the world as it is. -/
theorem wp_region_tail {P : Program} {id : Nat} {Q : Exit → Act → World → Prop} {a : Act} {w : World} {l : List Oper} (n : Nat) (hm : P.follows .mixedOrders = true) (hB : Region.lexTailB .any l.toArray n = true)
    (h : wpStill P l.toArray w.drew (fun a' => wpList P l.toArray Q (l.drop n) a' w.drew) (l.take n) a) : (Code.region id l.toArray true).wp P Q a w :=
  wp_region_still_tail n hm hB h

/-- The same behind an earlier such region. -/
theorem quiet_eq2 {P : Program} {f : FuncId} {args : Array Value} {w : World} {k n : Nat} {v : Value}
    (h : Calls P f args (w.drewN (k + n)) fun e w' => e = .returned v ∧ w.drewN (k + n) = w') : Calls P f args (w.drewN (k + n)) fun e w'' => e = .returned v ∧ ∃ m, w'' = w.drewN (k + m) :=
  h.mono fun _ _ ⟨he, hm⟩ => ⟨he, n, hm.symm⟩
end Tr
