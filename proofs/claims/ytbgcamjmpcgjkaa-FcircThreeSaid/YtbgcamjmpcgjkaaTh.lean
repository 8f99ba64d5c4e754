/- fcirc.Through at finite points whose operations are all valid. -/
import Derived.Test.YtbgcamjmpcgjkaaF3
import Derived.Test.YtbgcamjmpcgjkaaIt
import Derived.Test.YtbgcamjmpcgjkaaMt
import Derived.StillTailTactics
import Derived.Lib.Hide
namespace Go.Proofs.Ytbgcamjmpcgjkaa
open Go.RowKit Go.Shelf Tr
attribute [local go_sem] Oper.semAt_some

structure CThr (p1 p2 q1 q2 r1 r2 A B1 B2 C : Nat) : Prop where
  ex : ∃ a1 a2 b1 b2 u v s1 s2 t1 t2 g1 g2 e1 e2 k1 k2 x1 x2 m n y, CSub q1 q2 p1 p2 a1 a2 ∧ CSub r1 r2 p1 p2 b1 b2 ∧ CDot a1 a2 a1 a2 u ∧ CScale b1 b2 u s1 s2 ∧ CDot b1 b2 b1 b2 v ∧ CScale a1 a2 v t1 t2
    ∧ CSub s1 s2 t1 t2 g1 g2 ∧ CScale g2 g1 13826050856027422720 e1 e2 ∧ CCross a1 a2 b1 b2 A ∧ CScale p1 (flip p2) A k1 k2 ∧ CSub e1 e2 k1 k2 B1 B2 ∧ CMul e1 e2 p1 p2 x1 x2 ∧ CDot p1 p2 p1 p2 m
    ∧ VOp .mul A m n ∧ VOp .add x1 x1 y ∧ VOp .sub n y C

def FinC : Type := { z : Nat × Nat // Fin1 z.1 ∧ Fin1 z.2 }
def encC (z : FinC) : Value := .complex .f64 z.1.1 z.1.2

set_option maxHeartbeats 800000 in
theorem through_ok {p1 p2 q1 q2 r1 r2 A B1 B2 C : Nat} (h : CThr p1 p2 q1 q2 r1 r2 A B1 B2 C) (hp1 : Fin1 p1) (hp2 : Fin1 p2) (hq1 : Fin1 q1) (hq2 : Fin1 q2) (hr1 : Fin1 r1) (hr2 : Fin1 r2)
    (hz : (Ieee.double.order A 0 == some .eq && (Ieee.double.order B1 0 == some .eq && Ieee.double.order B2 0 == some .eq)) = false) (w : World) :
    Calls Try.prog 5 #[.complex .f64 p1 p2, .complex .f64 q1 q2, .complex .f64 r1 r2] w fun e w' => e = .returned (.tuple #[.agg #[.float .f64 A, .complex .f64 B1 B2, .float .f64 C], .int .i64 0]) ∧ Below w.heap.size w w' := by
  obtain ⟨a1, a2, b1, b2, u, v, s1, s2, t1, t2, g1, g2, e1, e2, k1, k2, x1, x2, m, n, y, h1, h2, h3, h4, h5, h6, h7, h8, h9, h10, h11, h12, h13, h14, h15, h16⟩ := h.ex
  have HZ := Lib.hid hz
  clear hz h
  refine (callsIn_wide (n := 3)).1 ?_
  refine callsIn_of_wp_marks Try.func5 rfl trivial ?_ rfl
  refine wpIn_wide.2 ?_
  simp only [Try.ntmps5, List.size_toArray, List.length_cons, List.length_nil, Nat.reduceAdd, Nat.reduceSub, Array.replicate_succ, Array.replicate_zero, List.push_toArray, List.append_toArray, List.nil_append, List.cons_append]
  go_wp2_with (go_at_call 9; refine (valuesC_any _ _ _ _).mono ?_; rintro e w' ⟨rfl, rfl⟩)
  obtain ⟨wb, hwb⟩ : ∃ wb : World, wb = (((w.alloc (Obj.cells #[Value.float FloatKind.f64 0, Value.complex FloatKind.f64 0 0, Value.float FloatKind.f64 0] 28)).alloc (Obj.cells #[Value.int IntKind.i64 0] 29)).alloc
      (Obj.cells #[Value.complex FloatKind.f64 p1 p2, Value.complex FloatKind.f64 q1 q2, Value.complex FloatKind.f64 r1 r2] 24)).alloc (Obj.cells #[Value.slice (some { block := w.heap.size + 1 + 1, off := 0 }) 3 3] 41) := ⟨_, rfl⟩
  have hsz : wb.heap.size = w.heap.size + 4 := by rw [hwb]; simp
  have hbw : Below w.heap.size w wb := by rw [hwb]; exact ((((Below.refl _ _).alloc (Nat.le_refl _) _).alloc (by simp) _).alloc (by simp; omega) _).alloc (by simp; omega) _
  have hcs : ∀ j, j < 3 → wb.cell? ⟨w.heap.size + 1 + 1, 0 + j, none⟩ = some (encC ((fun j => if j = 0 then (⟨(p1, p2), hp1, hp2⟩ : FinC) else if j = 1 then ⟨(q1, q2), hq1, hq2⟩ else ⟨(r1, r2), hr1, hr2⟩) j)) := by
    intro j hj
    have : j = 0 ∨ j = 1 ∨ j = 2 := by omega
    rw [hwb]
    rcases this with rfl | rfl | rfl <;> simp [go_sem, encC]
  have hcv : wb.cell? ⟨w.heap.size + 3, 0, none⟩ = some (.slice (some ⟨w.heap.size + 1 + 1, 0, none⟩) 3 3) := by
    rw [hwb]; simp [go_sem]
  have hr0 : wb.cell? ⟨w.heap.size, 0, none⟩ = some (.float .f64 0) ∧ wb.cell? ⟨w.heap.size, 1, none⟩ = some (.complex .f64 0 0) ∧ wb.cell? ⟨w.heap.size, 2, none⟩ = some (.float .f64 0) ∧ wb.cell? ⟨w.heap.size + 1, 0, none⟩ = some (.int .i64 0) := by
    rw [hwb]; simp [go_sem]
  have hf0 : wb.frozen? ⟨w.heap.size, 0, none⟩ = false ∧ wb.frozen? ⟨w.heap.size, 1, none⟩ = false ∧ wb.frozen? ⟨w.heap.size, 2, none⟩ = false ∧ wb.frozen? ⟨w.heap.size + 1, 0, none⟩ = false := by
    rw [hwb]; simp [go_sem]
  rw [← hwb]
  refine wp_rangeF (α := FinC) (gf := 23) (lb := #[.pointer (some ⟨w.heap.size + 3, 0, none⟩)]) rfl (enters_of Try.func23 (by kernel_rfl) rfl)
    (valuesC_stops encC Fence.wide 2 trivial rfl (by decide) (w.heap.size + 3) wb.heap.size _ _ _ _ _ (by decide) wb (by omega) (Nat.le_refl _) hcv (by omega) hcs)
    (Nat.le_refl _) (Below.refl _ _) (fun _ => rfl)
    (fun _ W => Below wb.heap.size wb W) (fun _ _ _ => False) (ownFrom_below (Nat.le_refl _) (Nat.le_refl _)) (fun _ _ _ _ _ hs _ _ => hs) (Below.refl _ _)
    (fun x t => (t.setIfInBounds 21 (encC x)).setIfInBounds 8 (encC x)) ?assign ?body ?done ?stop
  case assign =>
    intro l x W K hK
    gi_wp2
    exact hK
  case body =>
    rintro l pre x W hB _
    gi_wp2_with (refine ⟨trivial, ?_⟩; gi_at_call 10; refine (CallsIn.inRound l (callsIn_wide.2 (Finite_ok x.2.1 x.2.2 _))).mono ?_; rintro e w' ⟨rfl, rfl⟩)
    exact ⟨KeepsOthers.refl _, Below.refl _ _, hB⟩
  case stop =>
    rintro D c pre W hD _ h _
    exact h.elim
  case done =>
    rintro D ys W hD rfl hB hK
    have hsW := hB.size
    have c0 : W.cell? ⟨w.heap.size, 0, none⟩ = some (.float .f64 0) := (hB.cell (p := ⟨w.heap.size, 0, none⟩) (by show w.heap.size < _; omega)).trans hr0.1
    have c1 : W.cell? ⟨w.heap.size, 1, none⟩ = some (.complex .f64 0 0) := (hB.cell (p := ⟨w.heap.size, 1, none⟩) (by show w.heap.size < _; omega)).trans hr0.2.1
    have c2 : W.cell? ⟨w.heap.size, 2, none⟩ = some (.float .f64 0) := (hB.cell (p := ⟨w.heap.size, 2, none⟩) (by show w.heap.size < _; omega)).trans hr0.2.2.1
    have c3 : W.cell? ⟨w.heap.size + 1, 0, none⟩ = some (.int .i64 0) := (hB.cell (p := ⟨w.heap.size + 1, 0, none⟩) (by show w.heap.size + 1 < _; omega)).trans hr0.2.2.2
    have f0 : W.frozen? ⟨w.heap.size, 0, none⟩ = false := (hB.frozen (p := ⟨w.heap.size, 0, none⟩) (by show w.heap.size < _; omega)).trans hf0.1
    have f1 : W.frozen? ⟨w.heap.size, 1, none⟩ = false := (hB.frozen (p := ⟨w.heap.size, 1, none⟩) (by show w.heap.size < _; omega)).trans hf0.2.1
    have f2 : W.frozen? ⟨w.heap.size, 2, none⟩ = false := (hB.frozen (p := ⟨w.heap.size, 2, none⟩) (by show w.heap.size < _; omega)).trans hf0.2.2.1
    have f3 : W.frozen? ⟨w.heap.size + 1, 0, none⟩ = false := (hB.frozen (p := ⟨w.heap.size + 1, 0, none⟩) (by show w.heap.size + 1 < _; omega)).trans hf0.2.2.2
    have hBW : Below w.heap.size w W := hbw.trans (hB.mono (by omega))
    clear hcs hcv hr0 hf0 hwb hbw hp1 hp2 hq1 hq2 hr1 hr2
    go_wp2_with (first
      | (go_at_call 11; refine (sub_ok (by assumption) _).mono ?_; rintro e w' ⟨rfl, rfl⟩)
      | (go_at_call 13; refine (abs2_ok (by assumption) _).mono ?_; rintro e w' ⟨rfl, rfl⟩)
      | (go_at_call 12; refine (scale_ok (by assumption) _).mono ?_; rintro e w' ⟨rfl, rfl⟩)
      | (go_at_call 14; refine (cross_ok (by assumption) _).mono ?_; rintro e w' ⟨rfl, rfl⟩))
    refine wp_region_tail 8 (by kernel_rfl) (by kernel_rfl) ?_
    simp only [List.take_succ_cons, List.take_zero, List.drop_succ_cons, List.drop_zero]
    repeat (first | still_step | still_call (still_eq (conj_any _ _ _)) | still_call (still_eq (scale_ok h10 _)) | still_call (still_eq (sub_ok h11 _)))
    refine wpStill_nil ?_
    have r14 := fun w => h14.run (P := Try.prog) 25 w
    go_wp2_with (first | (go_at_call 16; refine (mul_ok h12 _).mono ?_; rintro e w' ⟨rfl, rfl⟩))
    obtain ⟨w3, hw3⟩ : ∃ w3 : World, w3 = (W.alloc (Obj.cells #[Value.float FloatKind.f64 A, Value.complex FloatKind.f64 B1 B2, Value.float FloatKind.f64 0] 28)).drew := ⟨_, rfl⟩
    have hB3 : Below W.heap.size W w3 := by rw [hw3]; exact ((Below.refl _ _).alloc (Nat.le_refl _) _).drew
    have hs3 : w3.heap.size = W.heap.size + 1 := by rw [hw3]; simp
    have d0 : w3.cell? ⟨W.heap.size, 0, none⟩ = some (.float .f64 A) ∧ w3.cell? ⟨W.heap.size, 1, none⟩ = some (.complex .f64 B1 B2) ∧ w3.cell? ⟨W.heap.size, 2, none⟩ = some (.float .f64 0) := by
      rw [hw3]; simp [go_sem]
    have d1 : w3.frozen? ⟨W.heap.size, 0, none⟩ = false ∧ w3.frozen? ⟨W.heap.size, 1, none⟩ = false ∧ w3.frozen? ⟨W.heap.size, 2, none⟩ = false := by
      rw [hw3]; simp [go_sem]
    obtain ⟨d00, d01, d02⟩ := d0
    obtain ⟨d10, d11, d12⟩ := d1
    have c0 := (hB3.cell (p := ⟨w.heap.size, 0, none⟩) (by show w.heap.size < _; omega)).trans c0
    have c1 := (hB3.cell (p := ⟨w.heap.size, 1, none⟩) (by show w.heap.size < _; omega)).trans c1
    have c2 := (hB3.cell (p := ⟨w.heap.size, 2, none⟩) (by show w.heap.size < _; omega)).trans c2
    have c3 := (hB3.cell (p := ⟨w.heap.size + 1, 0, none⟩) (by show w.heap.size + 1 < _; omega)).trans c3
    have f0 := (hB3.frozen (p := ⟨w.heap.size, 0, none⟩) (by show w.heap.size < _; omega)).trans f0
    have f1 := (hB3.frozen (p := ⟨w.heap.size, 1, none⟩) (by show w.heap.size < _; omega)).trans f1
    have f2 := (hB3.frozen (p := ⟨w.heap.size, 2, none⟩) (by show w.heap.size < _; omega)).trans f2
    have f3 := (hB3.frozen (p := ⟨w.heap.size + 1, 0, none⟩) (by show w.heap.size + 1 < _; omega)).trans f3
    rw [← hw3]
    clear hw3
    go_quiet ((go_at_call 13; exact quiet_eq (abs2_ok h13 _)))
    have hce := fun w => run_ceql (P := Try.prog) 24 B1 B2 0 0 w
    go_wp2_with (refine wpList_fok rfl _ _ _ _ _ rfl _ _ rfl rfl (by assumption) ?_)
    · exfalso
      have hz := HZ.out
      rename_i q1 q2
      obtain ⟨q2, q3⟩ := q2
      rw [q2, q3, show Ieee.double.order A 0 = some .eq from q1] at hz
      exact absurd hz (by decide)
    all_goals
      have hK4 : ((((((w3.drewN nq).setCell { block := W.heap.size, off := 2 } (Value.float FloatKind.f64 C)).setCell { block := w.heap.size, off := 0 } (Value.float FloatKind.f64 A)).setCell { block := w.heap.size, off := 1 } (Value.complex FloatKind.f64 B1 B2)).setCell
          { block := w.heap.size, off := 2 } (Value.float FloatKind.f64 C)).setCell { block := w.heap.size + 1, off := 0 } (Value.int IntKind.i64 0)).heap[D]? = some (.deferred (some [])) := by
        have hDW : D < W.heap.size := (Array.getElem?_eq_some_iff.1 hK).1
        rw [heap_set _ _ _ _ _ (by omega), heap_set _ _ _ _ _ (by omega), heap_set _ _ _ _ _ (by omega), heap_set _ _ _ _ _ (by omega), heap_set _ _ _ _ _ (by omega)]
        exact (hB3.block D hDW).trans hK
      refine leave_marks (v := .tuple #[.agg #[.float .f64 A, .complex .f64 B1 B2, .float .f64 C], .int .i64 0]) hK4 ?_ ⟨rfl, ?_⟩
      · have g0 := fun i => putObj_cell (w := (((((w3.drewN nq).setCell { block := W.heap.size, off := 2 } (Value.float FloatKind.f64 C)).setCell { block := w.heap.size, off := 0 } (Value.float FloatKind.f64 A)).setCell { block := w.heap.size, off := 1 } (Value.complex FloatKind.f64 B1 B2)).setCell
          { block := w.heap.size, off := 2 } (Value.float FloatKind.f64 C)).setCell { block := w.heap.size + 1, off := 0 } (Value.int IntKind.i64 0)) (D := D) (o := .deferred none) (a := ⟨w.heap.size, i, none⟩) (by show w.heap.size ≠ D; omega)
        have g1 := putObj_cell (w := (((((w3.drewN nq).setCell { block := W.heap.size, off := 2 } (Value.float FloatKind.f64 C)).setCell { block := w.heap.size, off := 0 } (Value.float FloatKind.f64 A)).setCell { block := w.heap.size, off := 1 } (Value.complex FloatKind.f64 B1 B2)).setCell
          { block := w.heap.size, off := 2 } (Value.float FloatKind.f64 C)).setCell { block := w.heap.size + 1, off := 0 } (Value.int IntKind.i64 0)) (D := D) (o := .deferred none) (a := ⟨w.heap.size + 1, 0, none⟩) (by show w.heap.size + 1 ≠ D; omega)
        simp [results, Try.results5, go_sem, g0, g1, c0, c1, c2, c3]
      · exact below_putObj (below_set (below_set (below_set (below_set (below_set (below_drewN (hBW.trans (hB3.mono (by omega))) _) (by omega) _) (Nat.le_refl _) _) (Nat.le_refl _) _) (Nat.le_refl _) _) (by omega) _) (by omega) _
set_option maxHeartbeats 800000 in
theorem through_zero {p1 p2 q1 q2 r1 r2 A B1 B2 C : Nat} (h : CThr p1 p2 q1 q2 r1 r2 A B1 B2 C) (hp1 : Fin1 p1) (hp2 : Fin1 p2) (hq1 : Fin1 q1) (hq2 : Fin1 q2) (hr1 : Fin1 r1) (hr2 : Fin1 r2)
    (hz : (Ieee.double.order A 0 == some .eq && (Ieee.double.order B1 0 == some .eq && Ieee.double.order B2 0 == some .eq)) = true) (w : World) :
    Calls Try.prog 5 #[.complex .f64 p1 p2, .complex .f64 q1 q2, .complex .f64 r1 r2] w fun e w' => e = .returned (.tuple #[.agg #[.float .f64 0, .complex .f64 0 0, .float .f64 0], .int .i64 5]) ∧ Below w.heap.size w w' := by
  obtain ⟨a1, a2, b1, b2, u, v, s1, s2, t1, t2, g1, g2, e1, e2, k1, k2, x1, x2, m, n, y, h1, h2, h3, h4, h5, h6, h7, h8, h9, h10, h11, h12, h13, h14, h15, h16⟩ := h.ex
  have HZ := Lib.hid hz
  clear hz h
  refine (callsIn_wide (n := 3)).1 ?_
  refine callsIn_of_wp_marks Try.func5 rfl trivial ?_ rfl
  refine wpIn_wide.2 ?_
  simp only [Try.ntmps5, List.size_toArray, List.length_cons, List.length_nil, Nat.reduceAdd, Nat.reduceSub, Array.replicate_succ, Array.replicate_zero, List.push_toArray, List.append_toArray, List.nil_append, List.cons_append]
  go_wp2_with (go_at_call 9; refine (valuesC_any _ _ _ _).mono ?_; rintro e w' ⟨rfl, rfl⟩)
  obtain ⟨wb, hwb⟩ : ∃ wb : World, wb = (((w.alloc (Obj.cells #[Value.float FloatKind.f64 0, Value.complex FloatKind.f64 0 0, Value.float FloatKind.f64 0] 28)).alloc (Obj.cells #[Value.int IntKind.i64 0] 29)).alloc
      (Obj.cells #[Value.complex FloatKind.f64 p1 p2, Value.complex FloatKind.f64 q1 q2, Value.complex FloatKind.f64 r1 r2] 24)).alloc (Obj.cells #[Value.slice (some { block := w.heap.size + 1 + 1, off := 0 }) 3 3] 41) := ⟨_, rfl⟩
  have hsz : wb.heap.size = w.heap.size + 4 := by rw [hwb]; simp
  have hbw : Below w.heap.size w wb := by rw [hwb]; exact ((((Below.refl _ _).alloc (Nat.le_refl _) _).alloc (by simp) _).alloc (by simp; omega) _).alloc (by simp; omega) _
  have hcs : ∀ j, j < 3 → wb.cell? ⟨w.heap.size + 1 + 1, 0 + j, none⟩ = some (encC ((fun j => if j = 0 then (⟨(p1, p2), hp1, hp2⟩ : FinC) else if j = 1 then ⟨(q1, q2), hq1, hq2⟩ else ⟨(r1, r2), hr1, hr2⟩) j)) := by
    intro j hj
    have : j = 0 ∨ j = 1 ∨ j = 2 := by omega
    rw [hwb]
    rcases this with rfl | rfl | rfl <;> simp [go_sem, encC]
  have hcv : wb.cell? ⟨w.heap.size + 3, 0, none⟩ = some (.slice (some ⟨w.heap.size + 1 + 1, 0, none⟩) 3 3) := by
    rw [hwb]; simp [go_sem]
  have hr0 : wb.cell? ⟨w.heap.size, 0, none⟩ = some (.float .f64 0) ∧ wb.cell? ⟨w.heap.size, 1, none⟩ = some (.complex .f64 0 0) ∧ wb.cell? ⟨w.heap.size, 2, none⟩ = some (.float .f64 0) ∧ wb.cell? ⟨w.heap.size + 1, 0, none⟩ = some (.int .i64 0) := by
    rw [hwb]; simp [go_sem]
  have hf0 : wb.frozen? ⟨w.heap.size, 0, none⟩ = false ∧ wb.frozen? ⟨w.heap.size, 1, none⟩ = false ∧ wb.frozen? ⟨w.heap.size, 2, none⟩ = false ∧ wb.frozen? ⟨w.heap.size + 1, 0, none⟩ = false := by
    rw [hwb]; simp [go_sem]
  rw [← hwb]
  refine wp_rangeF (α := FinC) (gf := 23) (lb := #[.pointer (some ⟨w.heap.size + 3, 0, none⟩)]) rfl (enters_of Try.func23 (by kernel_rfl) rfl)
    (valuesC_stops encC Fence.wide 2 trivial rfl (by decide) (w.heap.size + 3) wb.heap.size _ _ _ _ _ (by decide) wb (by omega) (Nat.le_refl _) hcv (by omega) hcs)
    (Nat.le_refl _) (Below.refl _ _) (fun _ => rfl)
    (fun _ W => Below wb.heap.size wb W) (fun _ _ _ => False) (ownFrom_below (Nat.le_refl _) (Nat.le_refl _)) (fun _ _ _ _ _ hs _ _ => hs) (Below.refl _ _)
    (fun x t => (t.setIfInBounds 21 (encC x)).setIfInBounds 8 (encC x)) ?assign ?body ?done ?stop
  case assign =>
    intro l x W K hK
    gi_wp2
    exact hK
  case body =>
    rintro l pre x W hB _
    gi_wp2_with (refine ⟨trivial, ?_⟩; gi_at_call 10; refine (CallsIn.inRound l (callsIn_wide.2 (Finite_ok x.2.1 x.2.2 _))).mono ?_; rintro e w' ⟨rfl, rfl⟩)
    exact ⟨KeepsOthers.refl _, Below.refl _ _, hB⟩
  case stop =>
    rintro D c pre W hD _ h _
    exact h.elim
  case done =>
    rintro D ys W hD rfl hB hK
    have hsW := hB.size
    have c0 : W.cell? ⟨w.heap.size, 0, none⟩ = some (.float .f64 0) := (hB.cell (p := ⟨w.heap.size, 0, none⟩) (by show w.heap.size < _; omega)).trans hr0.1
    have c1 : W.cell? ⟨w.heap.size, 1, none⟩ = some (.complex .f64 0 0) := (hB.cell (p := ⟨w.heap.size, 1, none⟩) (by show w.heap.size < _; omega)).trans hr0.2.1
    have c2 : W.cell? ⟨w.heap.size, 2, none⟩ = some (.float .f64 0) := (hB.cell (p := ⟨w.heap.size, 2, none⟩) (by show w.heap.size < _; omega)).trans hr0.2.2.1
    have c3 : W.cell? ⟨w.heap.size + 1, 0, none⟩ = some (.int .i64 0) := (hB.cell (p := ⟨w.heap.size + 1, 0, none⟩) (by show w.heap.size + 1 < _; omega)).trans hr0.2.2.2
    have f0 : W.frozen? ⟨w.heap.size, 0, none⟩ = false := (hB.frozen (p := ⟨w.heap.size, 0, none⟩) (by show w.heap.size < _; omega)).trans hf0.1
    have f1 : W.frozen? ⟨w.heap.size, 1, none⟩ = false := (hB.frozen (p := ⟨w.heap.size, 1, none⟩) (by show w.heap.size < _; omega)).trans hf0.2.1
    have f2 : W.frozen? ⟨w.heap.size, 2, none⟩ = false := (hB.frozen (p := ⟨w.heap.size, 2, none⟩) (by show w.heap.size < _; omega)).trans hf0.2.2.1
    have f3 : W.frozen? ⟨w.heap.size + 1, 0, none⟩ = false := (hB.frozen (p := ⟨w.heap.size + 1, 0, none⟩) (by show w.heap.size + 1 < _; omega)).trans hf0.2.2.2
    have hBW : Below w.heap.size w W := hbw.trans (hB.mono (by omega))
    clear hcs hcv hr0 hf0 hwb hbw hp1 hp2 hq1 hq2 hr1 hr2
    go_wp2_with (first
      | (go_at_call 11; refine (sub_ok (by assumption) _).mono ?_; rintro e w' ⟨rfl, rfl⟩)
      | (go_at_call 13; refine (abs2_ok (by assumption) _).mono ?_; rintro e w' ⟨rfl, rfl⟩)
      | (go_at_call 12; refine (scale_ok (by assumption) _).mono ?_; rintro e w' ⟨rfl, rfl⟩)
      | (go_at_call 14; refine (cross_ok (by assumption) _).mono ?_; rintro e w' ⟨rfl, rfl⟩))
    refine wp_region_tail 8 (by kernel_rfl) (by kernel_rfl) ?_
    simp only [List.take_succ_cons, List.take_zero, List.drop_succ_cons, List.drop_zero]
    repeat (first | still_step | still_call (still_eq (conj_any _ _ _)) | still_call (still_eq (scale_ok h10 _)) | still_call (still_eq (sub_ok h11 _)))
    refine wpStill_nil ?_
    have r14 := fun w => h14.run (P := Try.prog) 25 w
    go_wp2_with (first | (go_at_call 16; refine (mul_ok h12 _).mono ?_; rintro e w' ⟨rfl, rfl⟩))
    obtain ⟨w3, hw3⟩ : ∃ w3 : World, w3 = (W.alloc (Obj.cells #[Value.float FloatKind.f64 A, Value.complex FloatKind.f64 B1 B2, Value.float FloatKind.f64 0] 28)).drew := ⟨_, rfl⟩
    have hB3 : Below W.heap.size W w3 := by rw [hw3]; exact ((Below.refl _ _).alloc (Nat.le_refl _) _).drew
    have hs3 : w3.heap.size = W.heap.size + 1 := by rw [hw3]; simp
    have d0 : w3.cell? ⟨W.heap.size, 0, none⟩ = some (.float .f64 A) ∧ w3.cell? ⟨W.heap.size, 1, none⟩ = some (.complex .f64 B1 B2) ∧ w3.cell? ⟨W.heap.size, 2, none⟩ = some (.float .f64 0) := by
      rw [hw3]; simp [go_sem]
    have d1 : w3.frozen? ⟨W.heap.size, 0, none⟩ = false ∧ w3.frozen? ⟨W.heap.size, 1, none⟩ = false ∧ w3.frozen? ⟨W.heap.size, 2, none⟩ = false := by
      rw [hw3]; simp [go_sem]
    obtain ⟨d00, d01, d02⟩ := d0
    obtain ⟨d10, d11, d12⟩ := d1
    have c0 := (hB3.cell (p := ⟨w.heap.size, 0, none⟩) (by show w.heap.size < _; omega)).trans c0
    have c1 := (hB3.cell (p := ⟨w.heap.size, 1, none⟩) (by show w.heap.size < _; omega)).trans c1
    have c2 := (hB3.cell (p := ⟨w.heap.size, 2, none⟩) (by show w.heap.size < _; omega)).trans c2
    have c3 := (hB3.cell (p := ⟨w.heap.size + 1, 0, none⟩) (by show w.heap.size + 1 < _; omega)).trans c3
    have f0 := (hB3.frozen (p := ⟨w.heap.size, 0, none⟩) (by show w.heap.size < _; omega)).trans f0
    have f1 := (hB3.frozen (p := ⟨w.heap.size, 1, none⟩) (by show w.heap.size < _; omega)).trans f1
    have f2 := (hB3.frozen (p := ⟨w.heap.size, 2, none⟩) (by show w.heap.size < _; omega)).trans f2
    have f3 := (hB3.frozen (p := ⟨w.heap.size + 1, 0, none⟩) (by show w.heap.size + 1 < _; omega)).trans f3
    rw [← hw3]
    clear hw3
    go_quiet ((go_at_call 13; exact quiet_eq (abs2_ok h13 _)))
    have hce := fun w => run_ceql (P := Try.prog) 24 B1 B2 0 0 w
    go_wp2_with (refine wpList_fok rfl _ _ _ _ _ rfl _ _ rfl rfl (by assumption) ?_)
    rotate_left
    · exfalso
      have hz := HZ.out
      rename_i q1 q2
      rw [show Ieee.double.order A 0 = some .eq from q1] at hz
      rcases q2 with q2 | q2 <;> rw [q2] at hz <;> simp at hz
    · exfalso
      have hz := HZ.out
      rename_i q1
      simp only [Bool.and_eq_true, beq_iff_eq] at hz
      exact q1 hz.1
    all_goals
      have hK4 : ((((((w3.drewN nq).setCell { block := W.heap.size, off := 2 } (Value.float FloatKind.f64 C)).setCell { block := w.heap.size, off := 0 } (Value.float FloatKind.f64 0)).setCell { block := w.heap.size, off := 1 } (Value.complex FloatKind.f64 0 0)).setCell
          { block := w.heap.size, off := 2 } (Value.float FloatKind.f64 0)).setCell { block := w.heap.size + 1, off := 0 } (Value.int IntKind.i64 5)).heap[D]? = some (.deferred (some [])) := by
        have hDW : D < W.heap.size := (Array.getElem?_eq_some_iff.1 hK).1
        rw [heap_set _ _ _ _ _ (by omega), heap_set _ _ _ _ _ (by omega), heap_set _ _ _ _ _ (by omega), heap_set _ _ _ _ _ (by omega), heap_set _ _ _ _ _ (by omega)]
        exact (hB3.block D hDW).trans hK
      refine leave_marks (v := .tuple #[.agg #[.float .f64 0, .complex .f64 0 0, .float .f64 0], .int .i64 5]) hK4 ?_ ⟨rfl, ?_⟩
      · have g0 := fun i => putObj_cell (w := (((((w3.drewN nq).setCell { block := W.heap.size, off := 2 } (Value.float FloatKind.f64 C)).setCell { block := w.heap.size, off := 0 } (Value.float FloatKind.f64 0)).setCell { block := w.heap.size, off := 1 } (Value.complex FloatKind.f64 0 0)).setCell
          { block := w.heap.size, off := 2 } (Value.float FloatKind.f64 0)).setCell { block := w.heap.size + 1, off := 0 } (Value.int IntKind.i64 5)) (D := D) (o := .deferred none) (a := ⟨w.heap.size, i, none⟩) (by show w.heap.size ≠ D; omega)
        have g1 := putObj_cell (w := (((((w3.drewN nq).setCell { block := W.heap.size, off := 2 } (Value.float FloatKind.f64 C)).setCell { block := w.heap.size, off := 0 } (Value.float FloatKind.f64 0)).setCell { block := w.heap.size, off := 1 } (Value.complex FloatKind.f64 0 0)).setCell
          { block := w.heap.size, off := 2 } (Value.float FloatKind.f64 0)).setCell { block := w.heap.size + 1, off := 0 } (Value.int IntKind.i64 5)) (D := D) (o := .deferred none) (a := ⟨w.heap.size + 1, 0, none⟩) (by show w.heap.size + 1 ≠ D; omega)
        simp [results, Try.results5, go_sem, g0, g1, c0, c1, c2, c3]
      · exact below_putObj (below_set (below_set (below_set (below_set (below_set (below_drewN (hBW.trans (hB3.mono (by omega))) _) (by omega) _) (Nat.le_refl _) _) (Nat.le_refl _) _) (Nat.le_refl _) _) (by omega) _) (by omega) _
end Go.Proofs.Ytbgcamjmpcgjkaa
