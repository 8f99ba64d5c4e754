/- The circle through three whole points, reckoned exactly: all operations are valid, the three points lie on it, and the map that moves nothing keeps it. Plain: about floats and whole numbers alone. -/
import Derived.Test.YtbgcamjmpcgjkaaIm
namespace Go.Proofs.Ytbgcamjmpcgjkaa
open Go.RowKit Go.Shelf Tr

/-- x stands for h / 2^k, and h is at most b. -/
def SB (k x : Nat) (h : Int) (b : Nat) : Prop := Sc k x h ∧ h.natAbs ≤ b

theorem sb_add {k x y : Nat} {a b : Int} {m n : Nat} (ha : SB k x a m) (hb : SB k y b n) (h : m + n < 2 ^ 53) : ∃ r, VOp .add x y r ∧ SB k r (a + b) (m + n) := by
  obtain ⟨r, hr, hs⟩ := vadd ha.1 hb.1 (by have := ha.2; have := hb.2; omega)
  exact ⟨r, hr, hs, by have := ha.2; have := hb.2; omega⟩
theorem sb_sub {k x y : Nat} {a b : Int} {m n : Nat} (ha : SB k x a m) (hb : SB k y b n) (h : m + n < 2 ^ 53) : ∃ r, VOp .sub x y r ∧ SB k r (a - b) (m + n) := by
  obtain ⟨r, hr, hs⟩ := vsub ha.1 hb.1 (by have := ha.2; have := hb.2; omega)
  exact ⟨r, hr, hs, by have := ha.2; have := hb.2; omega⟩
theorem sb_mul {j k x y : Nat} {a b : Int} {m n : Nat} (ha : SB j x a m) (hb : SB k y b n) (hjk : j + k ≤ 1074) (h : m * n < 2 ^ 53) : ∃ r, VOp .mul x y r ∧ SB (j + k) r (a * b) (m * n) := by
  have hb' : (a * b).natAbs ≤ m * n := by rw [Int.natAbs_mul]; exact Nat.mul_le_mul ha.2 hb.2
  obtain ⟨r, hr, hs⟩ := vmul ha.1 hb.1 hjk (by omega)
  exact ⟨r, hr, hs, hb'⟩
theorem sb_neg {k x : Nat} {a : Int} {m : Nat} (hx : x < 2 ^ 64) (ha : SB k x a m) : SB k (flip x) (-a) m := ⟨sc_neg hx ha.1, by have := ha.2; omega⟩
theorem sb_wide {k x : Nat} {a : Int} {m : Nat} (ha : SB k x a m) (hk : k + 1 ≤ 1074) : SB (k + 1) x (2 * a) (2 * m) := ⟨sc_widen ha.1 hk, by have := ha.2; omega⟩
theorem sb_le {k x : Nat} {a : Int} {m n : Nat} (ha : SB k x a m) (h : m ≤ n) : SB k x a n := ⟨ha.1, Nat.le_trans ha.2 h⟩
theorem sc_zero (k : Nat) : Sc k 0 0 := by
  unfold Sc Ex DV
  refine ⟨false, 0, -1074, by decide +kernel, by decide, ?_⟩
  rw [signed_eq]; simp
theorem sb_zero (k : Nat) : SB k 0 0 0 := ⟨sc_zero k, by decide⟩
/-- -0.5 -/
theorem sb_half : SB 1 13826050856027422720 (-1) 1 := by
  refine ⟨?_, by decide⟩
  unfold Sc Ex DV
  refine ⟨true, 4503599627370496, -53, by decide +kernel, by decide, ?_⟩
  rw [signed_eq]
  have : UU - 1 = 52 + (-53 + 1074 : Int).toNat := by decide
  rw [this, Nat.add_comm]
  generalize (-53 + 1074 : Int).toNat = e
  rw [Int.pow_add]
  simp [Int.natCast_pow, Int.mul_comm]
theorem sb_one : SB 0 4607182418800017408 1 1 := by
  refine ⟨?_, by decide⟩
  unfold Sc Ex DV
  refine ⟨false, 4503599627370496, -52, by decide +kernel, by decide, ?_⟩
  rw [signed_eq]
  have : UU - 0 = 52 + (-52 + 1074 : Int).toNat := by decide
  rw [this, Nat.add_comm]
  generalize (-52 + 1074 : Int).toNat = e
  rw [Int.pow_add]
  simp [Int.natCast_pow, Int.mul_comm]
theorem sc_eq {k x y : Nat} {a : Int} (hx : Sc k x a) (hy : Sc k y a) : Ieee.double.order x y = some .eq := by
  rw [sc_order hx hy]; congr 1; simp
theorem sc_ne {k x y : Nat} {a b : Int} (hx : Sc k x a) (hy : Sc k y b) (h : Ieee.double.order x y = some .eq) : a = b := by
  rw [sc_order hx hy] at h
  simp only [Option.some.injEq] at h
  rw [compare_int] at h
  split at h
  · cases h
  · split at h
    · assumption
    · cases h

theorem cs_sub {k a b c d : Nat} {A B C D : Int} {m n : Nat} (ha : SB k a A m) (hb : SB k b B m) (hc : SB k c C n) (hd : SB k d D n) (h : m + n < 2 ^ 53) :
    ∃ r s, CSub a b c d r s ∧ SB k r (A - C) (m + n) ∧ SB k s (B - D) (m + n) := by
  obtain ⟨r, h1, h2⟩ := sb_sub ha hc h
  obtain ⟨s, h3, h4⟩ := sb_sub hb hd h
  exact ⟨r, s, ⟨h1, h3⟩, h2, h4⟩
theorem cs_add {k a b c d : Nat} {A B C D : Int} {m n : Nat} (ha : SB k a A m) (hb : SB k b B m) (hc : SB k c C n) (hd : SB k d D n) (h : m + n < 2 ^ 53) :
    ∃ r s, CAdd a b c d r s ∧ SB k r (A + C) (m + n) ∧ SB k s (B + D) (m + n) := by
  obtain ⟨r, h1, h2⟩ := sb_add ha hc h
  obtain ⟨s, h3, h4⟩ := sb_add hb hd h
  exact ⟨r, s, ⟨h1, h3⟩, h2, h4⟩
theorem cs_scale {j k a b c : Nat} {A B C : Int} {m n : Nat} (ha : SB j a A m) (hb : SB j b B m) (hc : SB k c C n) (hjk : j + k ≤ 1074) (h : m * n < 2 ^ 53) :
    ∃ r s, CScale a b c r s ∧ SB (j + k) r (A * C) (m * n) ∧ SB (j + k) s (B * C) (m * n) := by
  obtain ⟨r, h1, h2⟩ := sb_mul ha hc hjk h
  obtain ⟨s, h3, h4⟩ := sb_mul hb hc hjk h
  exact ⟨r, s, ⟨h1, h3⟩, h2, h4⟩
theorem cs_dot {j k a b c d : Nat} {A B C D : Int} {m n : Nat} (ha : SB j a A m) (hb : SB j b B m) (hc : SB k c C n) (hd : SB k d D n) (hjk : j + k ≤ 1074) (h : m * n + m * n < 2 ^ 53) :
    ∃ r, CDot a b c d r ∧ SB (j + k) r (A * C + B * D) (m * n + m * n) := by
  obtain ⟨x, h1, h2⟩ := sb_mul ha hc hjk (by omega)
  obtain ⟨y, h3, h4⟩ := sb_mul hb hd hjk (by omega)
  obtain ⟨r, h5, h6⟩ := sb_add h2 h4 h
  exact ⟨r, ⟨x, y, h1, h3, h5⟩, h6⟩
theorem cs_cross {j k a b c d : Nat} {A B C D : Int} {m n : Nat} (ha : SB j a A m) (hb : SB j b B m) (hc : SB k c C n) (hd : SB k d D n) (hjk : j + k ≤ 1074) (h : m * n + m * n < 2 ^ 53) :
    ∃ r, CCross a b c d r ∧ SB (j + k) r (A * D - B * C) (m * n + m * n) := by
  obtain ⟨x, h1, h2⟩ := sb_mul ha hd hjk (by omega)
  obtain ⟨y, h3, h4⟩ := sb_mul hb hc hjk (by omega)
  obtain ⟨r, h5, h6⟩ := sb_sub h2 h4 h
  exact ⟨r, ⟨x, y, h1, h3, h5⟩, h6⟩
theorem cs_mul {j k a b c d : Nat} {A B C D : Int} {m n : Nat} (ha : SB j a A m) (hb : SB j b B m) (hc : SB k c C n) (hd : SB k d D n) (hjk : j + k ≤ 1074) (h : m * n + m * n < 2 ^ 53) :
    ∃ r s, CMul a b c d r s ∧ SB (j + k) r (A * C - B * D) (m * n + m * n) ∧ SB (j + k) s (A * D + B * C) (m * n + m * n) := by
  obtain ⟨x, h1, g1⟩ := sb_mul ha hc hjk (by omega)
  obtain ⟨y, h2, g2⟩ := sb_mul hb hd hjk (by omega)
  obtain ⟨z, h3, g3⟩ := sb_mul ha hd hjk (by omega)
  obtain ⟨u, h4, g4⟩ := sb_mul hb hc hjk (by omega)
  obtain ⟨r, h5, g5⟩ := sb_sub g1 g2 h
  obtain ⟨s, h6, g6⟩ := sb_add g3 g4 h
  exact ⟨r, s, ⟨x, y, z, u, h1, h2, h3, h4, h5, h6⟩, g5, g6⟩

/-- The circle's numbers, as whole numbers (B's and C's in halves). -/
def ZA (P1 P2 Q1 Q2 R1 R2 : Int) : Int := (Q1 - P1) * (R2 - P2) - (Q2 - P2) * (R1 - P1)
def ZG (a b c d x y : Int) : Int := x * (a * a + b * b) - y * (c * c + d * d)
def ZB1 (P1 P2 Q1 Q2 R1 R2 : Int) : Int := ZG (Q1 - P1) (Q2 - P2) (R1 - P1) (R2 - P2) (R2 - P2) (Q2 - P2) * (-1) - 2 * (P1 * ZA P1 P2 Q1 Q2 R1 R2)
def ZB2 (P1 P2 Q1 Q2 R1 R2 : Int) : Int := ZG (Q1 - P1) (Q2 - P2) (R1 - P1) (R2 - P2) (R1 - P1) (Q1 - P1) * (-1) - 2 * (-P2 * ZA P1 P2 Q1 Q2 R1 R2)
def ZX (P1 P2 Q1 Q2 R1 R2 : Int) : Int := ZG (Q1 - P1) (Q2 - P2) (R1 - P1) (R2 - P2) (R2 - P2) (Q2 - P2) * (-1) * P1 - ZG (Q1 - P1) (Q2 - P2) (R1 - P1) (R2 - P2) (R1 - P1) (Q1 - P1) * (-1) * P2
def ZC (P1 P2 Q1 Q2 R1 R2 : Int) : Int := 2 * (ZA P1 P2 Q1 Q2 R1 R2 * (P1 * P1 + P2 * P2)) - (ZX P1 P2 Q1 Q2 R1 R2 + ZX P1 P2 Q1 Q2 R1 R2)
def ZV (A B1 B2 C z1 z2 : Int) : Int := 2 * (A * (z1 * z1 + z2 * z2)) + (B1 * z1 - B2 * z2 + (B1 * z1 - B2 * z2)) + C

theorem zv_p (P1 P2 Q1 Q2 R1 R2 : Int) : ZV (ZA P1 P2 Q1 Q2 R1 R2) (ZB1 P1 P2 Q1 Q2 R1 R2) (ZB2 P1 P2 Q1 Q2 R1 R2) (ZC P1 P2 Q1 Q2 R1 R2) P1 P2 = 0 := by
  unfold ZV ZB1 ZB2 ZC ZX
  generalize ZA P1 P2 Q1 Q2 R1 R2 = a
  generalize ZG (Q1 - P1) (Q2 - P2) (R1 - P1) (R2 - P2) (R2 - P2) (Q2 - P2) = x
  generalize ZG (Q1 - P1) (Q2 - P2) (R1 - P1) (R2 - P2) (R1 - P1) (Q1 - P1) = y
  grind
theorem zv_q (P1 P2 Q1 Q2 R1 R2 : Int) : ZV (ZA P1 P2 Q1 Q2 R1 R2) (ZB1 P1 P2 Q1 Q2 R1 R2) (ZB2 P1 P2 Q1 Q2 R1 R2) (ZC P1 P2 Q1 Q2 R1 R2) Q1 Q2 = 0 := by
  unfold ZV ZB1 ZB2 ZC ZX ZA ZG
  obtain ⟨a1, rfl⟩ : ∃ a1, Q1 = P1 + a1 := ⟨Q1 - P1, by omega⟩
  obtain ⟨a2, rfl⟩ : ∃ a2, Q2 = P2 + a2 := ⟨Q2 - P2, by omega⟩
  obtain ⟨b1, rfl⟩ : ∃ b1, R1 = P1 + b1 := ⟨R1 - P1, by omega⟩
  obtain ⟨b2, rfl⟩ : ∃ b2, R2 = P2 + b2 := ⟨R2 - P2, by omega⟩
  grind
theorem zv_r (P1 P2 Q1 Q2 R1 R2 : Int) : ZV (ZA P1 P2 Q1 Q2 R1 R2) (ZB1 P1 P2 Q1 Q2 R1 R2) (ZB2 P1 P2 Q1 Q2 R1 R2) (ZC P1 P2 Q1 Q2 R1 R2) R1 R2 = 0 := by
  unfold ZV ZB1 ZB2 ZC ZX ZA ZG
  obtain ⟨a1, rfl⟩ : ∃ a1, Q1 = P1 + a1 := ⟨Q1 - P1, by omega⟩
  obtain ⟨a2, rfl⟩ : ∃ a2, Q2 = P2 + a2 := ⟨Q2 - P2, by omega⟩
  obtain ⟨b1, rfl⟩ : ∃ b1, R1 = P1 + b1 := ⟨R1 - P1, by omega⟩
  obtain ⟨b2, rfl⟩ : ∃ b2, R2 = P2 + b2 := ⟨R2 - P2, by omega⟩
  grind

theorem circ_exact {p1 p2 q1 q2 r1 r2 : Nat} {P1 P2 Q1 Q2 R1 R2 : Int} (hp1 : SB 0 p1 P1 1024) (hp2 : SB 0 p2 P2 1024) (hq1 : SB 0 q1 Q1 1024) (hq2 : SB 0 q2 Q2 1024) (hr1 : SB 0 r1 R1 1024) (hr2 : SB 0 r2 R2 1024) (hlt : p2 < 2 ^ 64) :
    ∃ A B1 B2 C, CThr p1 p2 q1 q2 r1 r2 A B1 B2 C ∧ SB 0 A (ZA P1 P2 Q1 Q2 R1 R2) 8388608 ∧ SB 1 B1 (ZB1 P1 P2 Q1 Q2 R1 R2) 68719476736 ∧ SB 1 B2 (ZB2 P1 P2 Q1 Q2 R1 R2) 68719476736 ∧ SB 1 C (ZC P1 P2 Q1 Q2 R1 R2) 281474976710656 := by
  obtain ⟨a1, a2, c1, sa1, sa2⟩ := cs_sub hq1 hq2 hp1 hp2 (by decide)
  obtain ⟨b1, b2, c2, sb1, sb2⟩ := cs_sub hr1 hr2 hp1 hp2 (by decide)
  obtain ⟨u, c3, su⟩ := cs_dot sa1 sa2 sa1 sa2 (by decide) (by decide)
  obtain ⟨s1, s2, c4, ss1, ss2⟩ := cs_scale sb1 sb2 su (by decide) (by decide)
  obtain ⟨v, c5, sv⟩ := cs_dot sb1 sb2 sb1 sb2 (by decide) (by decide)
  obtain ⟨t1, t2, c6, st1, st2⟩ := cs_scale sa1 sa2 sv (by decide) (by decide)
  obtain ⟨g1, g2, c7, sg1, sg2⟩ := cs_sub ss1 ss2 st1 st2 (by decide)
  obtain ⟨e1, e2, c8, se1, se2⟩ := cs_scale sg2 sg1 sb_half (by decide) (by decide)
  obtain ⟨A, c9, sA⟩ := cs_cross sa1 sa2 sb1 sb2 (by decide) (by decide)
  obtain ⟨k1, k2, c10, sk1, sk2⟩ := cs_scale hp1 (sb_neg hlt hp2) sA (by decide) (by decide)
  obtain ⟨B1, B2, c11, sB1, sB2⟩ := cs_sub se1 se2 (sb_wide sk1 (by decide)) (sb_wide sk2 (by decide)) (by decide)
  obtain ⟨x1, x2, c12, sx1, sx2⟩ := cs_mul se1 se2 hp1 hp2 (by decide) (by decide)
  obtain ⟨m, c13, sm⟩ := cs_dot hp1 hp2 hp1 hp2 (by decide) (by decide)
  obtain ⟨n, c14, sn⟩ := sb_mul sA sm (by decide) (by decide)
  obtain ⟨y, c15, sy⟩ := sb_add sx1 sx1 (by decide)
  obtain ⟨C, c16, sC⟩ := sb_sub (sb_wide sn (by decide)) sy (by decide)
  exact ⟨A, B1, B2, C, ⟨a1, a2, b1, b2, u, v, s1, s2, t1, t2, g1, g2, e1, e2, k1, k2, x1, x2, m, n, y, c1, c2, c3, c4, c5, c6, c7, c8, c9, c10, c11, c12, c13, c14, c15, c16⟩,
    sb_le sA (by decide), sb_le sB1 (by decide), sb_le sB2 (by decide), sb_le sC (by decide)⟩

theorem cval_exact {A B1 B2 C z1 z2 : Nat} {a b1 b2 c Z1 Z2 : Int} (hA : SB 0 A a 8388608) (hB1 : SB 1 B1 b1 68719476736) (hB2 : SB 1 B2 b2 68719476736) (hC : SB 1 C c 281474976710656) (hz1 : SB 0 z1 Z1 1024) (hz2 : SB 0 z2 Z2 1024) :
    ∃ r, CVal A B1 B2 C z1 z2 r ∧ Sc 1 r (ZV a b1 b2 c Z1 Z2) := by
  obtain ⟨u, c1, su⟩ := cs_dot hz1 hz2 hz1 hz2 (by decide) (by decide)
  obtain ⟨vr, vi, c2, sv1, sv2⟩ := cs_mul hB1 hB2 hz1 hz2 (by decide) (by decide)
  obtain ⟨s, c3, ss⟩ := sb_mul hA su (by decide) (by decide)
  obtain ⟨t, c4, st⟩ := sb_add sv1 sv1 (by decide)
  obtain ⟨q, c5, sq⟩ := sb_add (sb_wide ss (by decide)) st (by decide)
  obtain ⟨r, c6, sr⟩ := sb_add sq hC (by decide)
  exact ⟨r, ⟨u, vr, vi, s, t, q, c1, c2, c3, c4, c5, c6⟩, sr.1⟩

theorem cpart_exact {A B1 B2 C x1 x2 y1 y2 : Nat} {a b1 b2 c X1 X2 Y1 Y2 : Int} (hA : SB 0 A a 8388608) (hB1 : SB 1 B1 b1 68719476736) (hB2 : SB 1 B2 b2 68719476736) (hC : SB 1 C c 281474976710656) (hx1 : SB 0 x1 X1 1) (hx2 : SB 0 x2 X2 1) (hy1 : SB 0 y1 Y1 1) (hy2 : SB 0 y2 Y2 1) (hlt : y2 < 2 ^ 64) :
    ∃ r, CPart A B1 B2 C x1 x2 y1 y2 r ∧ Sc 1 r (2 * (a * (X1 * X1 + X2 * X2)) + c * (Y1 * Y1 + Y2 * Y2) + ((b1 * X1 - b2 * X2) * Y1 - (b1 * X2 + b2 * X1) * -Y2 + ((b1 * X1 - b2 * X2) * Y1 - (b1 * X2 + b2 * X1) * -Y2))) := by
  obtain ⟨m1, m2, c1, s1, s2⟩ := cs_mul hB1 hB2 hx1 hx2 (by decide) (by decide)
  obtain ⟨n1, n2, c2, s3, s4⟩ := cs_mul s1 s2 hy1 (sb_neg hlt hy2) (by decide) (by decide)
  obtain ⟨u, c3, su⟩ := cs_dot hx1 hx2 hx1 hx2 (by decide) (by decide)
  obtain ⟨s, c4, ss⟩ := sb_mul hA su (by decide) (by decide)
  obtain ⟨v, c5, sv⟩ := cs_dot hy1 hy2 hy1 hy2 (by decide) (by decide)
  obtain ⟨t, c6, st⟩ := sb_mul hC sv (by decide) (by decide)
  obtain ⟨p, c7, sp⟩ := sb_add (sb_wide ss (by decide)) st (by decide)
  obtain ⟨q, c8, sq⟩ := sb_add s3 s3 (by decide)
  obtain ⟨r, c9, sr⟩ := sb_add sp sq (by decide)
  exact ⟨r, ⟨m1, m2, n1, n2, u, v, s, t, p, q, c1, c2, c3, c4, c5, c6, c7, c8, c9⟩, sr.1⟩

theorem sb_mzero (k : Nat) : SB k (flip 0) 0 0 := by
  have := sb_neg (x := 0) (by decide) (sb_zero k)
  exact this

theorem cimg_exact {A B1 B2 C : Nat} {a b1 b2 c : Int} (hA : SB 0 A a 8388608) (hB1 : SB 1 B1 b1 68719476736) (hB2 : SB 1 B2 b2 68719476736) (hC : SB 1 C c 281474976710656) (hlt : B2 < 2 ^ 64) :
    ∃ A' D1 D2 C', CImg A B1 B2 C A' D1 D2 C' ∧ Sc 1 A' (2 * a) ∧ Sc 1 D1 b1 ∧ Sc 1 D2 b2 ∧ Sc 1 C' c := by
  have one : SB 0 4607182418800017408 1 1 := sb_one
  have zero : SB 0 0 0 1 := sb_le (sb_zero 0) (by decide)
  have mzero : SB 0 (flip 0) 0 1 := sb_le (sb_mzero 0) (by decide)
  have zero' : SB 0 (flip (flip 0)) 0 1 := sb_neg (x := flip 0) (by decide) mzero
  obtain ⟨j1, j2, c1, sj1, sj2⟩ := cs_mul one zero mzero zero' (by decide) (by decide)
  obtain ⟨i1, i2, c2, si1, si2⟩ := cs_scale sj1 sj2 hA (by decide) (by decide)
  obtain ⟨k1, k2, c3, sk1, sk2⟩ := cs_mul hB1 hB2 one zero (by decide) (by decide)
  obtain ⟨l1, l2, c4, sl1, sl2⟩ := cs_mul sk1 sk2 one mzero (by decide) (by decide)
  obtain ⟨o1, o2, c5, so1, so2⟩ := cs_add (sb_wide si1 (by decide)) (sb_wide si2 (by decide)) sl1 sl2 (by decide)
  obtain ⟨s1, s2, c6, ss1, ss2⟩ := cs_mul hB1 (sb_neg hlt hB2) mzero mzero (by decide) (by decide)
  obtain ⟨t1, t2, c7, st1, st2⟩ := cs_mul ss1 ss2 mzero zero' (by decide) (by decide)
  obtain ⟨u1, u2, c8, su1, su2⟩ := cs_mul mzero mzero one mzero (by decide) (by decide)
  obtain ⟨v1, v2, c9, sv1, sv2⟩ := cs_scale su1 su2 hC (by decide) (by decide)
  obtain ⟨x1, x2, c10, sx1, sx2⟩ := cs_add st1 st2 sv1 sv2 (by decide)
  obtain ⟨A', c11, sA⟩ := cpart_exact hA hB1 hB2 hC one zero mzero mzero (by decide)
  obtain ⟨D1, D2, c12, sD1, sD2⟩ := cs_add so1 so2 sx1 sx2 (by decide)
  obtain ⟨C', c13, sC⟩ := cpart_exact hA hB1 hB2 hC mzero mzero one zero (by decide)
  refine ⟨A', D1, D2, C', ⟨o1, o2, j1, j2, i1, i2, k1, k2, l1, l2, s1, s2, t1, t2, u1, u2, v1, v2, x1, x2, 0, 0, c1, c2, c3, c4, c5, c6, c7, c8, c9, c10, c11, c12, c13, rfl, rfl⟩, ?_, ?_, ?_, ?_⟩
  · have e : 2 * (a * (1 * 1 + 0 * 0)) + c * (0 * 0 + 0 * 0) + ((b1 * 1 - b2 * 0) * 0 - (b1 * 0 + b2 * 1) * -0 + ((b1 * 1 - b2 * 0) * 0 - (b1 * 0 + b2 * 1) * -0)) = 2 * a := by simp
    rwa [e] at sA
  · have := sD1.1
    simp at this
    exact this
  · have := sD2.1
    simp at this
    exact this
  · have e : 2 * (a * (0 * 0 + 0 * 0)) + c * (1 * 1 + 0 * 0) + ((b1 * 0 - b2 * 0) * 1 - (b1 * 0 + b2 * 0) * -0 + ((b1 * 0 - b2 * 0) * 1 - (b1 * 0 + b2 * 0) * -0)) = c := by simp
    rwa [e] at sC
end Go.Proofs.Ytbgcamjmpcgjkaa
