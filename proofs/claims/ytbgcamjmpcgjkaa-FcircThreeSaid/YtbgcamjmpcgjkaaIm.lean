/- fcirc.Image by the map that moves nothing, where all operations are valid. -/
import Derived.Test.YtbgcamjmpcgjkaaTh
import Derived.Deep.RegionWith
import Derived.Deep.RegionHeld3
namespace Go.Proofs.Ytbgcamjmpcgjkaa
open Go.RowKit Go.Shelf Tr

def CPart (A br bi C xr xi yr yi r : Nat) : Prop := ∃ m1 m2 n1 n2 u v s t p q, CMul br bi xr xi m1 m2 ∧ CMul m1 m2 yr (flip yi) n1 n2 ∧ CDot xr xi xr xi u ∧ VOp .mul A u s ∧ CDot yr yi yr yi v ∧ VOp .mul C v t ∧ VOp .add s t p ∧ VOp .add n1 n1 q ∧ VOp .add p q r

set_option maxHeartbeats 400000 in
theorem part_ok {A br bi C xr xi yr yi r : Nat} (h : CPart A br bi C xr xi yr yi r) (B F : Nat) (w : World) (hb : w.cell? ⟨B, 0, none⟩ = some (.complex .f64 br bi)) (hA : w.cell? ⟨F, 0, none⟩ = some (.float .f64 A)) (hC : w.cell? ⟨F, 2, none⟩ = some (.float .f64 C)) :
    Calls Try.prog 21 #[.complex .f64 xr xi, .complex .f64 yr yi, .pointer (some ⟨B, 0, none⟩), .pointer (some ⟨F, 0, none⟩)] w fun e w' => e = .returned (.float .f64 r) ∧ ∃ n, w' = w.drewN n := by
  obtain ⟨m1, m2, n1, n2, u, v, s, t, p, q, h1, h2, h3, h4, h5, h6, h7, h8, h9⟩ := h
  have r4 := fun w => h4.run (P := Try.prog) 25 w
  have r6 := fun w => h6.run (P := Try.prog) 25 w
  go_enter Try.func21, Try.ntmps21
  go_wp2_with (first | (go_at_call 16; refine (mul_ok h1 _).mono ?_; clear h1; rintro e w' ⟨rfl, rfl⟩) | (go_at_call 16; refine (mul_ok h2 _).mono ?_; rintro e w' ⟨rfl, rfl⟩) | (go_at_call 15; refine (conj_any _ _ _).mono ?_; rintro e w' ⟨rfl, rfl⟩))
  go_quiet ((go_at_call 13; exact quiet_eq (abs2_ok h3 _)))
  go_wp2
  go_quiet ((go_at_call 13; exact quiet_eq2 (abs2_ok h5 _)))
  go_wp2_with (refine wpList_fok rfl _ _ _ _ _ rfl _ _ rfl rfl (by with_reducible assumption) ?_)
  go_ret
  exact ⟨rfl, ⟨_, rfl⟩⟩

def CImg (A br bi C A' B1 B2 C' : Nat) : Prop := ∃ o1 o2 j1 j2 i1 i2 k1 k2 l1 l2 s1 s2 t1 t2 u1 u2 v1 v2 x1 x2 y1 y2, CMul 4607182418800017408 0 (flip 0) (flip (flip 0)) j1 j2 ∧ CScale j1 j2 A i1 i2 ∧ CMul br bi 4607182418800017408 0 k1 k2 ∧ CMul k1 k2 4607182418800017408 (flip 0) l1 l2 ∧ CAdd i1 i2 l1 l2 o1 o2
  ∧ CMul br (flip bi) (flip 0) (flip 0) s1 s2 ∧ CMul s1 s2 (flip 0) (flip (flip 0)) t1 t2 ∧ CMul (flip 0) (flip 0) 4607182418800017408 (flip 0) u1 u2 ∧ CScale u1 u2 C v1 v2 ∧ CAdd t1 t2 v1 v2 x1 x2
  ∧ CPart A br bi C 4607182418800017408 0 (flip 0) (flip 0) A' ∧ CAdd o1 o2 x1 x2 B1 B2 ∧ CPart A br bi C (flip 0) (flip 0) 4607182418800017408 0 C' ∧ y1 = 0 ∧ y2 = 0

set_option maxHeartbeats 800000 in
theorem image_ok {A br bi C A' B1 B2 C' : Nat} (h : CImg A br bi C A' B1 B2 C') (w : World) :
    Calls Try.prog 8 #[.agg #[.complex .f64 4607182418800017408 0, .complex .f64 0 0, .complex .f64 0 0, .complex .f64 4607182418800017408 0, .bool false], .agg #[.float .f64 A, .complex .f64 br bi, .float .f64 C]] w
      fun e w' => e = .returned (.agg #[.float .f64 A', .complex .f64 B1 B2, .float .f64 C']) ∧ Below w.heap.size w w' := by
  obtain ⟨o1, o2, j1, j2, i1, i2, k1, k2, l1, l2, s1, s2, t1, t2, u1, u2, v1, v2, x1, x2, y1, y2, h1, h2, h3, h4, h5, h6, h7, h8, h9, h10, h11, h12, h13, _, _⟩ := h
  go_enter Try.func8, Try.ntmps8
  go_wp2
  obtain ⟨w1, hw1⟩ : ∃ w1 : World, w1 = ((w.alloc (Obj.cells #[Value.complex FloatKind.f64 4607182418800017408 0, Value.complex FloatKind.f64 0 0, Value.complex FloatKind.f64 0 0, Value.complex FloatKind.f64 4607182418800017408 0, Value.bool false] 36)).alloc
      (Obj.cells #[Value.float FloatKind.f64 A, Value.complex FloatKind.f64 br bi, Value.float FloatKind.f64 C] 28)).alloc (Obj.cells #[Value.float FloatKind.f64 0, Value.complex FloatKind.f64 0 0, Value.float FloatKind.f64 0] 28) := ⟨_, rfl⟩
  have hB1 : Below w.heap.size w w1 := by rw [hw1]; exact (((Below.refl _ _).alloc (Nat.le_refl _) _).alloc (by simp) _).alloc (by simp; omega) _
  have hs1 : w1.heap.size = w.heap.size + 3 := by rw [hw1]; simp
  have c0 : w1.cell? ⟨w.heap.size, 0, none⟩ = some (.complex .f64 4607182418800017408 0) := by rw [hw1]; simp [go_sem]
  have c1 : w1.cell? ⟨w.heap.size, 1, none⟩ = some (.complex .f64 0 0) := by rw [hw1]; simp [go_sem]
  have c2 : w1.cell? ⟨w.heap.size, 2, none⟩ = some (.complex .f64 0 0) := by rw [hw1]; simp [go_sem]
  have c3 : w1.cell? ⟨w.heap.size, 3, none⟩ = some (.complex .f64 4607182418800017408 0) := by rw [hw1]; simp [go_sem]
  have c4 : w1.cell? ⟨w.heap.size, 4, none⟩ = some (.bool false) := by rw [hw1]; simp [go_sem]
  have d0 : w1.cell? ⟨w.heap.size + 1, 0, none⟩ = some (.float .f64 A) := by rw [hw1]; simp [go_sem]
  have d1 : w1.cell? ⟨w.heap.size + 1, 1, none⟩ = some (.complex .f64 br bi) := by rw [hw1]; simp [go_sem]
  have d2 : w1.cell? ⟨w.heap.size + 1, 2, none⟩ = some (.float .f64 C) := by rw [hw1]; simp [go_sem]
  have e0 : w1.cell? ⟨w.heap.size + 2, 0, none⟩ = some (.float .f64 0) := by rw [hw1]; simp [go_sem]
  have e1 : w1.cell? ⟨w.heap.size + 2, 1, none⟩ = some (.complex .f64 0 0) := by rw [hw1]; simp [go_sem]
  have e2 : w1.cell? ⟨w.heap.size + 2, 2, none⟩ = some (.float .f64 0) := by rw [hw1]; simp [go_sem]
  have f0 : w1.frozen? ⟨w.heap.size + 2, 0, none⟩ = false := by rw [hw1]; simp [go_sem]
  have f1 : w1.frozen? ⟨w.heap.size + 2, 1, none⟩ = false := by rw [hw1]; simp [go_sem]
  have f2 : w1.frozen? ⟨w.heap.size + 2, 2, none⟩ = false := by rw [hw1]; simp [go_sem]
  rw [← hw1]
  clear hw1
  go_region_held3 (fun w' => w'.cell? ⟨w.heap.size, 0, none⟩ = some (.complex .f64 4607182418800017408 0) ∧ w'.cell? ⟨w.heap.size, 1, none⟩ = some (.complex .f64 0 0) ∧ w'.cell? ⟨w.heap.size, 2, none⟩ = some (.complex .f64 0 0) ∧ w'.cell? ⟨w.heap.size, 3, none⟩ = some (.complex .f64 4607182418800017408 0) ∧ w'.cell? ⟨w.heap.size + 1, 1, none⟩ = some (.complex .f64 br bi)) (go_keep)
    (first | (go_at_call 20; refine (neg_any _ _ _).mono ?_; rintro e w' ⟨rfl, rfl⟩))
  all_goals
    go_wp2
    obtain ⟨w2, hw2⟩ : ∃ w2 : World, w2 = (w1.alloc (Obj.cells #[Value.complex FloatKind.f64 br bi] 24)).drew := ⟨_, rfl⟩
    have hB2 : Below w1.heap.size w1 w2 := by rw [hw2]; exact ((Below.refl _ _).alloc (Nat.le_refl _) _).drew
    have g0 : w2.cell? ⟨w.heap.size + 3, 0, none⟩ = some (.complex .f64 br bi) := by rw [hw2, ← hs1]; simp [go_sem]
    have d0 := (hB2.cell (p := ⟨w.heap.size + 1, 0, none⟩) (by show w.heap.size + 1 < _; omega)).trans d0
    have d1 := (hB2.cell (p := ⟨w.heap.size + 1, 1, none⟩) (by show w.heap.size + 1 < _; omega)).trans d1
    have d2 := (hB2.cell (p := ⟨w.heap.size + 1, 2, none⟩) (by show w.heap.size + 1 < _; omega)).trans d2
    have e0 := (hB2.cell (p := ⟨w.heap.size + 2, 0, none⟩) (by show w.heap.size + 2 < _; omega)).trans e0
    have e1 := (hB2.cell (p := ⟨w.heap.size + 2, 1, none⟩) (by show w.heap.size + 2 < _; omega)).trans e1
    have e2 := (hB2.cell (p := ⟨w.heap.size + 2, 2, none⟩) (by show w.heap.size + 2 < _; omega)).trans e2
    have f0 := (hB2.frozen (p := ⟨w.heap.size + 2, 0, none⟩) (by show w.heap.size + 2 < _; omega)).trans f0
    have f1 := (hB2.frozen (p := ⟨w.heap.size + 2, 1, none⟩) (by show w.heap.size + 2 < _; omega)).trans f1
    have f2 := (hB2.frozen (p := ⟨w.heap.size + 2, 2, none⟩) (by show w.heap.size + 2 < _; omega)).trans f2
    rw [← hw2]
    clear hw2
    go_quiet ((first | (go_at_call 15; exact quiet_eq (conj_any _ _ _)) | (go_at_call 16; exact quiet_eq (mul_ok (by with_reducible assumption) _)) | (go_at_call 12; exact quiet_eq (scale_ok (by with_reducible assumption) _)) | (go_at_call 22; exact quiet_eq (add_ok (by with_reducible assumption) _))))
    go_wp2
    go_quiet ((first | (go_at_call 15; exact quiet_eq2 (conj_any _ _ _)) | (go_at_call 16; exact quiet_eq2 (mul_ok (by with_reducible assumption) _)) | (go_at_call 12; exact quiet_eq2 (scale_ok (by with_reducible assumption) _)) | (go_at_call 22; exact quiet_eq2 (add_ok (by with_reducible assumption) _))))
    have p1 : CPart A br bi C 4607182418800017408 0 (flip 0) (flip 0) A' := h11
    have p2 : CPart A br bi C (flip 0) (flip 0) 4607182418800017408 0 C' := h13
    go_wp2_with (first | (go_at_call 21; refine (part_ok p1 _ _ _ (by simpa using g0) (by simpa using d0) (by simpa using d2)).mono ?_; clear p1; rintro e w' ⟨rfl, n1, rfl⟩) | (go_at_call 21; refine (part_ok p2 _ _ _ (by simpa using g0) (by simpa using d0) (by simpa using d2)).mono ?_; rintro e w' ⟨rfl, n1, rfl⟩) | (go_at_call 22; refine (add_ok h12 _).mono ?_; rintro e w' ⟨rfl, rfl⟩))
    refine bodyPost_ret (v := .agg #[.float .f64 A', .complex .f64 B1 B2, .float .f64 C']) (by simp [results, Try.results8, go_sem, e0, e1, e2]) rfl ⟨rfl, ?_⟩
    exact below_set (below_set (below_set (below_drewN (hB1.trans (hB2.mono (by omega))) _) (by omega) _) (by omega) _) (by omega) _
end Go.Proofs.Ytbgcamjmpcgjkaa
