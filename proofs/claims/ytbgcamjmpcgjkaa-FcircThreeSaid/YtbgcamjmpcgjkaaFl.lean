/- Exact floats: what a double stands for, in units of 2^-1074; sums, differences and products that are exact. Plain: no program is in sight. -/
import Ieee.Arith
namespace Tr
open Ieee

/-- A datum that is finite, as a whole number of units of 2^-1074. -/
def DV (d : Datum) (v : Int) : Prop := ∃ s m e, d = .number s m e ∧ -1074 ≤ e ∧ signed s m (e + 1074).toNat = v
/-- 1074, behind a name. -/
def UU : Nat := 1074
theorem UU_eq : UU = 1074 := rfl
/-- The word x stands for v units. -/
def Ex (x : Nat) (v : Int) : Prop := DV (double.read x) v
/-- A magnitude that a double has. -/
def Rp (n : Nat) : Prop := ∃ k t, n = k * 2 ^ t ∧ k < 2 ^ 53 ∧ t ≤ 2045

theorem natAbs_two_pow (k : Nat) : ((2 : Int) ^ k).natAbs = 2 ^ k := by rw [Int.natAbs_pow]; rfl
theorem signed_eq (s : Bool) (m u : Nat) : signed s m u = if s then -((m * 2 ^ u : Nat) : Int) else ((m * 2 ^ u : Nat) : Int) := by
  unfold signed; simp [Nat.shiftLeft_eq]
theorem signed_natAbs (s : Bool) (m u : Nat) : (signed s m u).natAbs = m * 2 ^ u := by
  rw [signed_eq]; cases s <;> simp [Int.natAbs_mul, Int.natAbs_pow]
theorem signed_scale (s : Bool) (m u v : Nat) : signed s m u * (2 : Int) ^ v = signed s m (u + v) := by
  rw [signed_eq, signed_eq, Nat.pow_add, ← Nat.mul_assoc]
  cases s <;> simp [Int.natCast_mul, Int.natCast_pow, Int.neg_mul]

theorem sw : double.signWeight = 9223372036854775808 := rfl
theorem bn : double.binade = 4503599627370496 := rfl
theorem ir : double.infRung = 9218868437227405312 := rfl
theorem lp : double.leastPlace = -1074 := rfl

theorem read_word (s : Bool) (L kept : Nat) (hk : kept < 9007199254740992) (hL : L ≤ 2045) (h : L = 0 ∨ 4503599627370496 ≤ kept) :
    ∃ m e, double.read (double.word s (L * 4503599627370496 + kept)) = .number s m e ∧ -1074 ≤ e ∧ m * 2 ^ (e + 1074).toNat = kept * 2 ^ L := by
  have hr : L * 4503599627370496 + kept < 9218868437227405312 := by omega
  have h1 : double.word s (L * 4503599627370496 + kept) % 9223372036854775808 = L * 4503599627370496 + kept := by
    unfold Format.word; rw [sw]; cases s <;> simp <;> omega
  have h2 : (double.word s (L * 4503599627370496 + kept) / 9223372036854775808 % 2 == 1) = s := by
    unfold Format.word; rw [sw]
    cases s
    · simp; omega
    · simp; omega
  unfold Format.read
  simp only [sw, bn, ir, lp, h1, h2]
  by_cases hb : L * 4503599627370496 + kept < 4503599627370496
  · rw [if_pos hb]
    have hL0 : L = 0 := by omega
    subst hL0
    exact ⟨_, _, rfl, by omega, by simp⟩
  · rw [if_neg hb, if_pos hr]
    refine ⟨_, _, rfl, by omega, ?_⟩
    rcases h with h0 | h0
    · subst h0
      have e1 : (0 * 4503599627370496 + kept) / 4503599627370496 = 1 := by omega
      have e2 : 4503599627370496 + (0 * 4503599627370496 + kept) % 4503599627370496 = kept := by omega
      rw [e1, e2]; simp
    · have e1 : (L * 4503599627370496 + kept) / 4503599627370496 = L + 1 := by omega
      have e2 : 4503599627370496 + (L * 4503599627370496 + kept) % 4503599627370496 = kept := by omega
      rw [e1, e2]
      have : (-1074 + ((L + 1 - 1 : Nat) : Int) + 1074).toNat = L := by omega
      rw [this]

theorem cut_exact (neg : Bool) (kept drop : Nat) (hk : 0 < kept) : Toward.even.cut neg (kept * 2 ^ drop) drop = kept := by
  have hp : 0 < 2 ^ drop := Nat.two_pow_pos _
  have hne : kept * 2 ^ drop ≠ 0 := Nat.ne_of_gt (Nat.mul_pos hk hp)
  have hl : drop ≤ (kept * 2 ^ drop).log2 := by
    rw [Nat.le_log2 hne]
    exact Nat.le_mul_of_pos_left _ hk
  unfold Toward.cut
  simp only [Nat.min_eq_left (show drop ≤ (kept * 2 ^ drop).log2 + 2 by omega), Nat.one_shiftLeft, Nat.mul_div_cancel _ hp, Nat.mul_mod_left]
  have h1 : (2 ^ drop == 2 * 0) = false := by
    rw [beq_eq_false_iff_ne]; omega
  have h2 : decide (2 ^ drop < 2 * 0) = false := by simp
  rw [h1, h2]; rfl

/-- The nearest word of a number that a double has is just that number. -/
theorem nearest_exact (s : Bool) (mag : Nat) (place : Int) (N : Nat) (hm : 0 < mag)
    (hN : mag * 2 ^ (place + 1074).toNat = N * 2 ^ (-1074 - place).toNat) (hR : Rp N) :
    ∃ m e, double.read (double.nearest s mag place) = .number s m e ∧ -1074 ≤ e ∧ m * 2 ^ (e + 1074).toNat = N := by
  obtain ⟨k, t, hNk, hk, ht⟩ := hR
  have hNpos : 0 < N := by
    rcases Nat.eq_zero_or_pos N with h | h
    · subst h
      have := Nat.mul_pos hm (Nat.two_pow_pos (place + 1074).toNat)
      omega
    · exact h
  -- the logarithms
  have hl1 : 2 ^ mag.log2 ≤ mag := Nat.log2_self_le (by omega)
  have hl2 : mag < 2 ^ (mag.log2 + 1) := Nat.lt_log2_self
  have hg1 : 2 ^ N.log2 ≤ N := Nat.log2_self_le (by omega)
  have hg2 : N < 2 ^ (N.log2 + 1) := Nat.lt_log2_self
  have hlog : (N.log2 : Int) = place + mag.log2 + 1074 := by
    have a1 : 2 ^ (mag.log2 + (place + 1074).toNat) < 2 ^ (N.log2 + 1 + (-1074 - place).toNat) := by
      rw [Nat.pow_add, Nat.pow_add]
      calc 2 ^ mag.log2 * 2 ^ (place + 1074).toNat ≤ mag * 2 ^ (place + 1074).toNat := Nat.mul_le_mul_right _ hl1
        _ = N * 2 ^ (-1074 - place).toNat := hN
        _ < _ := Nat.mul_lt_mul_of_pos_right hg2 (Nat.two_pow_pos _)
    have a2 : 2 ^ (N.log2 + (-1074 - place).toNat) < 2 ^ (mag.log2 + 1 + (place + 1074).toNat) := by
      rw [Nat.pow_add, Nat.pow_add]
      calc 2 ^ N.log2 * 2 ^ (-1074 - place).toNat ≤ N * 2 ^ (-1074 - place).toNat := Nat.mul_le_mul_right _ hg1
        _ = mag * 2 ^ (place + 1074).toNat := hN.symm
        _ < _ := Nat.mul_lt_mul_of_pos_right hl2 (Nat.two_pow_pos _)
    have b1 := (Nat.pow_lt_pow_iff_right (by decide : 1 < 2)).1 a1
    have b2 := (Nat.pow_lt_pow_iff_right (by decide : 1 < 2)).1 a2
    omega
  -- the place of the last digit
  obtain ⟨L, hL⟩ : ∃ L : Nat, L = N.log2 - 52 := ⟨_, rfl⟩
  have hlast : max (place + mag.log2 - double.fractionBits) double.leastPlace = (L : Int) - 1074 := by
    rw [lp]
    show max (place + (mag.log2 : Int) - ((52 : Nat) : Int)) (-1074) = _
    omega
  have htg : N.log2 < 53 + t := by
    have : 2 ^ N.log2 < 2 ^ (53 + t) := by
      calc 2 ^ N.log2 ≤ N := hg1
        _ = k * 2 ^ t := hNk
        _ < 2 ^ 53 * 2 ^ t := Nat.mul_lt_mul_of_pos_right hk (Nat.two_pow_pos _)
        _ = 2 ^ (53 + t) := (Nat.pow_add _ _ _).symm
    exact (Nat.pow_lt_pow_iff_right (by decide : 1 < 2)).1 this
  have hLt : L ≤ t := by omega
  have hL45 : L ≤ 2045 := by omega
  obtain ⟨kept, hkept⟩ : ∃ kept, N = kept * 2 ^ L := ⟨k * 2 ^ (t - L), by rw [hNk, Nat.mul_assoc, ← Nat.pow_add]; congr 2; omega⟩
  have hkpos : 0 < kept := by
    rcases Nat.eq_zero_or_pos kept with h | h
    · subst h; simp at hkept; omega
    · exact h
  have hk53 : kept < 9007199254740992 := by
    have : kept * 2 ^ L < 2 ^ 53 * 2 ^ L := by
      rw [← hkept, ← Nat.pow_add]
      exact Nat.lt_of_lt_of_le hg2 (Nat.pow_le_pow_right (by decide) (by omega))
    exact Nat.lt_of_mul_lt_mul_right this
  have hk52 : L = 0 ∨ 4503599627370496 ≤ kept := by
    by_cases h0 : L = 0
    · exact .inl h0
    · right
      have : 2 ^ 52 * 2 ^ L ≤ kept * 2 ^ L := by
        rw [← hkept, ← Nat.pow_add]
        exact Nat.le_trans (Nat.pow_le_pow_right (by decide) (by omega)) hg1
      exact Nat.le_of_mul_le_mul_right this (Nat.two_pow_pos _)
  have hcut : Toward.even.cut s (mag <<< (place - ((L : Int) - 1074)).toNat) (((L : Int) - 1074) - place).toNat = kept := by
    by_cases hp : (L : Int) - 1074 ≤ place
    · have e0 : (((L : Int) - 1074) - place).toNat = 0 := by omega
      have e1 : mag <<< (place - ((L : Int) - 1074)).toNat = kept := by
        rw [Nat.shiftLeft_eq]
        have e2 : (-1074 - place).toNat = 0 := by omega
        have e3 : (place + 1074).toNat = (place - ((L : Int) - 1074)).toNat + L := by omega
        rw [e2, e3, hkept, Nat.pow_add, ← Nat.mul_assoc] at hN
        simp only [Nat.pow_zero, Nat.mul_one] at hN
        exact Nat.eq_of_mul_eq_mul_right (Nat.two_pow_pos _) hN
      rw [e0, e1]
      have := cut_exact s kept 0 hkpos
      simpa using this
    · have e1 : (place - ((L : Int) - 1074)).toNat = 0 := by omega
      obtain ⟨d, hd⟩ : ∃ d : Nat, d = (((L : Int) - 1074) - place).toNat := ⟨_, rfl⟩
      have e2 : mag = kept * 2 ^ d := by
        have : mag * 2 ^ (place + 1074).toNat = kept * 2 ^ d * 2 ^ (place + 1074).toNat := by
          rw [hN, hkept, Nat.mul_assoc, Nat.mul_assoc, ← Nat.pow_add, ← Nat.pow_add]
          congr 2; omega
        exact Nat.eq_of_mul_eq_mul_right (Nat.two_pow_pos _) this
      rw [e1, ← hd, Nat.shiftLeft_zero, e2]
      exact cut_exact s kept d hkpos
  have hw : double.nearest s mag place = double.word s (L * 4503599627370496 + kept) := by
    unfold Format.nearest
    rw [if_neg (by omega)]
    dsimp only
    rw [hlast, hcut, lp, bn, ir]
    have : ((L : Int) - 1074 - -1074).toNat = L := by omega
    rw [this, Nat.min_eq_left (by omega)]
  rw [hw, hkept]
  exact read_word s L kept hk53 hL45 hk52

/-- Written, a number that a double has stands for itself; a nought keeps its sign. -/
theorem write_exact (s : Bool) (mag : Nat) (place : Int) (N : Nat)
    (hN : mag * 2 ^ (place + 1074).toNat = N * 2 ^ (-1074 - place).toNat) (hR : Rp N) :
    Ex (double.write (.number s mag place)) (if s then -(N : Int) else N) := by
  show Ex (double.nearest s mag place) _
  rcases Nat.eq_zero_or_pos mag with h0 | hm
  · subst h0
    have hN0 : N = 0 := by
      rcases Nat.eq_zero_or_pos N with h | h
      · exact h
      · have := Nat.mul_pos h (Nat.two_pow_pos (-1074 - place).toNat); omega
    clear hN hR
    subst hN0
    obtain ⟨m, e, hr, he, hv⟩ := read_word s 0 0 (by omega) (by omega) (.inl rfl)
    refine ⟨s, m, e, ?_, he, ?_⟩
    · unfold Format.nearest; rw [if_pos rfl]; simpa using hr
    · rw [signed_eq, hv, Nat.zero_mul]
  · obtain ⟨m, e, hr, he, hv⟩ := nearest_exact s mag place N hm hN hR
    exact ⟨s, m, e, hr, he, by rw [signed_eq, hv]⟩

theorem ex_write {s : Bool} {mag : Nat} {place : Int} {v : Int} (hs : v = if s then -(v.natAbs : Int) else v.natAbs)
    (hN : mag * 2 ^ (place + 1074).toNat = v.natAbs * 2 ^ (-1074 - place).toNat) (hR : Rp v.natAbs) :
    Ex (double.write (.number s mag place)) v := by
  have := write_exact s mag place v.natAbs hN hR
  rwa [← hs] at this

theorem ex_nan {x : Nat} {v : Int} (h : Ex x v) : ∃ s m e, double.read x = .number s m e := by
  obtain ⟨s, m, e, h, _⟩ := h; exact ⟨s, m, e, h⟩

theorem sum_exact {d e : Datum} {a b : Int} (ha : DV d a) (hb : DV e b) (hR : Rp (a + b).natAbs) :
    ∃ q, d.sum e = some q ∧ Ex (double.write q) (a + b) := by
  obtain ⟨s, m, i, rfl, hi, rfl⟩ := ha
  obtain ⟨t, n, j, rfl, hj, rfl⟩ := hb
  refine ⟨_, rfl, ?_⟩
  obtain ⟨c, hc⟩ : ∃ c : Int, c = min i j := ⟨_, rfl⟩
  obtain ⟨u, hu⟩ : ∃ u : Nat, u = (c + 1074).toNat := ⟨_, rfl⟩
  have e1 : signed s m (i + 1074).toNat = signed s m (i - c).toNat * 2 ^ u := by
    rw [signed_scale]; congr 1; omega
  have e2 : signed t n (j + 1074).toNat = signed t n (j - c).toNat * 2 ^ u := by
    rw [signed_scale]; congr 1; omega
  have e3 : signed s m (i + 1074).toNat + signed t n (j + 1074).toNat = (signed s m (i - c).toNat + signed t n (j - c).toNat) * 2 ^ u := by
    rw [e1, e2, Int.add_mul]
  rw [e3] at hR ⊢
  rw [← hc]
  generalize signed s m (i - c).toNat + signed t n (j - c).toNat = T at *
  have hp : (0 : Int) < 2 ^ u := Int.pow_pos (by decide)
  have habs : (T * 2 ^ u).natAbs = T.natAbs * 2 ^ u := by
    rw [Int.natAbs_mul, natAbs_two_pow]
  refine ex_write ?_ ?_ hR
  · by_cases h0 : T = 0
    · subst h0; simp
    · simp only [h0, if_false]
      by_cases hT : T < 0
      · have : T * 2 ^ u < 0 := Int.mul_neg_of_neg_of_pos hT hp
        simp only [hT, decide_true, if_true]; omega
      · have : 0 ≤ T * 2 ^ u := Int.mul_nonneg (by omega) (by omega)
        simp only [hT, decide_false, Bool.false_eq_true, if_false]; omega
  · rw [habs]
    have : (-1074 - c).toNat = 0 := by omega
    rw [this, ← hu]; simp

theorem dv_opposite {d : Datum} {a : Int} (h : DV d a) : DV d.opposite (-a) := by
  obtain ⟨s, m, i, rfl, hi, rfl⟩ := h
  refine ⟨!s, m, i, rfl, hi, ?_⟩
  rw [signed_eq, signed_eq]; cases s <;> simp

theorem add_exact {x y : Nat} {a b : Int} (ha : Ex x a) (hb : Ex y b) (hR : Rp (a + b).natAbs) :
    ∃ r, double.add x y = some r ∧ Ex r (a + b) := by
  obtain ⟨q, hq, hw⟩ := sum_exact ha hb hR
  exact ⟨_, by unfold Format.add; rw [hq]; rfl, hw⟩

theorem sub_exact {x y : Nat} {a b : Int} (ha : Ex x a) (hb : Ex y b) (hR : Rp (a - b).natAbs) :
    ∃ r, double.sub x y = some r ∧ Ex r (a - b) := by
  obtain ⟨q, hq, hw⟩ := sum_exact ha (dv_opposite hb) hR
  exact ⟨_, by unfold Format.sub; rw [hq]; rfl, hw⟩

theorem mul_exact {x y : Nat} {a b c : Int} (ha : Ex x a) (hb : Ex y b) (hc : a * b = c * 2 ^ UU) (hR : Rp c.natAbs) :
    ∃ r, double.mul x y = some r ∧ Ex r c := by
  obtain ⟨s, m, i, hx, hi, rfl⟩ := ha
  obtain ⟨t, n, j, hy, hj, rfl⟩ := hb
  refine ⟨double.write (.number (s ^^ t) (m * n) (i + j)), by unfold Format.mul; rw [hx, hy]; rfl, ?_⟩
  have hca : m * n * 2 ^ ((i + 1074).toNat + (j + 1074).toNat) = c.natAbs * 2 ^ UU := by
    have := congrArg Int.natAbs hc
    rw [Int.natAbs_mul, Int.natAbs_mul, signed_natAbs, signed_natAbs, natAbs_two_pow] at this
    rw [Nat.pow_add]
    have e : m * n * (2 ^ (i + 1074).toNat * 2 ^ (j + 1074).toNat) = m * 2 ^ (i + 1074).toNat * (n * 2 ^ (j + 1074).toNat) := by
      simp only [Nat.mul_assoc, Nat.mul_left_comm]
    rw [e, this]
  refine ex_write ?_ ?_ hR
  · -- the sign
    have hp : (0 : Int) < 2 ^ UU := Int.pow_pos (by decide)
    generalize (2 : Int) ^ UU = P at hc hp
    rw [signed_eq, signed_eq] at hc
    generalize m * 2 ^ (i + 1074).toNat = A at *
    generalize n * 2 ^ (j + 1074).toNat = B at *
    have hAB : (0 : Int) ≤ (A : Int) * (B : Int) := Int.mul_nonneg (by omega) (by omega)
    have pos : 0 ≤ c * P → 0 ≤ c := fun h => Int.nonneg_of_mul_nonneg_left h hp
    have neg : c * P ≤ 0 → c ≤ 0 := fun h => by
      rcases Int.lt_or_le 0 c with h1 | h1
      · have := Int.mul_pos h1 hp; omega
      · exact h1
    cases s <;> cases t <;> simp [Int.neg_mul, Int.mul_neg] at hc ⊢
    · have := pos (by omega); omega
    · have := neg (by omega); omega
    · have := neg (by omega); omega
    · have := pos (by omega); omega
  · have hUU := UU_eq
    have key : m * n * 2 ^ (i + j + 1074).toNat * 2 ^ UU = c.natAbs * 2 ^ (-1074 - (i + j)).toNat * 2 ^ UU := by
      rw [Nat.mul_assoc, ← Nat.pow_add]
      by_cases h : -1074 ≤ i + j
      · have e1 : (-1074 - (i + j)).toNat = 0 := by omega
        have e2 : (i + j + 1074).toNat + UU = (i + 1074).toNat + (j + 1074).toNat := by omega
        rw [e1, e2, hca]; simp
      · have e1 : (i + j + 1074).toNat = 0 := by omega
        have e2 : UU = (i + 1074).toNat + (j + 1074).toNat + (-1074 - (i + j)).toNat := by omega
        rw [e1, Nat.zero_add]
        calc m * n * 2 ^ UU = m * n * 2 ^ ((i + 1074).toNat + (j + 1074).toNat + (-1074 - (i + j)).toNat) := by rw [← e2]
          _ = m * n * 2 ^ ((i + 1074).toNat + (j + 1074).toNat) * 2 ^ (-1074 - (i + j)).toNat := by rw [Nat.pow_add, Nat.mul_assoc, Nat.mul_assoc, Nat.mul_assoc]
          _ = c.natAbs * 2 ^ UU * 2 ^ (-1074 - (i + j)).toNat := by rw [hca]
          _ = _ := Nat.mul_right_comm _ _ _
    exact Nat.eq_of_mul_eq_mul_right (Nat.two_pow_pos _) key

theorem compare_int (a b : Int) : compare a b = if a < b then .lt else if a = b then .eq else .gt := rfl
theorem compare_scale (a b P : Int) (hp : 0 < P) : compare a b = compare (a * P) (b * P) := by
  rw [compare_int, compare_int]
  rcases Int.lt_trichotomy a b with h | h | h
  · have := Int.mul_lt_mul_of_pos_right h hp
    rw [if_pos h, if_pos this]
  · subst h; simp
  · have := Int.mul_lt_mul_of_pos_right h hp
    rw [if_neg (by omega), if_neg (by omega), if_neg (by omega), if_neg (by omega)]
theorem order_exact {x y : Nat} {a b : Int} (ha : Ex x a) (hb : Ex y b) : double.order x y = some (compare a b) := by
  obtain ⟨s, m, i, hx, hi, rfl⟩ := ha
  obtain ⟨t, n, j, hy, hj, rfl⟩ := hb
  unfold Format.order
  rw [hx, hy]
  show some _ = _
  obtain ⟨c, hc⟩ : ∃ c : Int, c = min i j := ⟨_, rfl⟩
  obtain ⟨u, hu⟩ : ∃ u : Nat, u = (c + 1074).toNat := ⟨_, rfl⟩
  have e1 : signed s m (i + 1074).toNat = signed s m (i - c).toNat * 2 ^ u := by
    rw [signed_scale]; congr 1; omega
  have e2 : signed t n (j + 1074).toNat = signed t n (j - c).toNat * 2 ^ u := by
    rw [signed_scale]; congr 1; omega
  rw [← hc, e1, e2]
  generalize signed s m (i - c).toNat = A
  generalize signed t n (j - c).toNat = B
  have hp : (0 : Int) < 2 ^ u := Int.pow_pos (by decide)
  generalize (2 : Int) ^ u = P at hp
  congr 1
  exact compare_scale A B P hp

/-- 'float64(n)' of a small whole number. -/
theorem int_exact (n : Int) (h : n.natAbs < 2 ^ 53) : Ex (double.write (.number (n < 0) n.natAbs 0)) (n * 2 ^ UU) := by
  have hUU := UU_eq
  have hp : (0 : Int) < 2 ^ UU := Int.pow_pos (by decide)
  have habs : (n * 2 ^ UU).natAbs = n.natAbs * 2 ^ UU := by
    rw [Int.natAbs_mul, natAbs_two_pow]
  refine ex_write ?_ ?_ ?_
  · clear habs
    generalize (2 : Int) ^ UU = P at *
    by_cases hn : n < 0
    · have := Int.mul_neg_of_neg_of_pos hn hp
      simp only [hn, decide_true, if_true]; omega
    · have := Int.mul_nonneg (a := n) (by omega) (Int.le_of_lt hp)
      simp only [hn, decide_false, Bool.false_eq_true, if_false]; omega
  · rw [habs]
    have e1 : ((0 : Int) + 1074).toNat = UU := rfl
    have e2 : (-1074 - (0 : Int)).toNat = 0 := rfl
    rw [e1, e2, Nat.pow_zero, Nat.mul_one]
  · rw [habs]; exact ⟨n.natAbs, UU, rfl, h, by omega⟩

/-! In parts of 2^-k: 'Sc k x h': x stands for h / 2^k. -/
def Sc (k : Nat) (x : Nat) (h : Int) : Prop := Ex x (h * 2 ^ (UU - k))

theorem rp_sc (k : Nat) (h : Int) (hh : h.natAbs < 2 ^ 53) : Rp (h * 2 ^ (UU - k)).natAbs :=
  ⟨h.natAbs, UU - k, by rw [Int.natAbs_mul, natAbs_two_pow], hh, by have := UU_eq; omega⟩

theorem sc_add {k x y : Nat} {a b : Int} (ha : Sc k x a) (hb : Sc k y b) (h : (a + b).natAbs < 2 ^ 53) : ∃ r, double.add x y = some r ∧ Sc k r (a + b) := by
  have e : (a + b) * 2 ^ (UU - k) = a * 2 ^ (UU - k) + b * 2 ^ (UU - k) := Int.add_mul ..
  have := add_exact ha hb (by rw [← e]; exact rp_sc k _ h)
  unfold Sc; rwa [e]
theorem sc_sub {k x y : Nat} {a b : Int} (ha : Sc k x a) (hb : Sc k y b) (h : (a - b).natAbs < 2 ^ 53) : ∃ r, double.sub x y = some r ∧ Sc k r (a - b) := by
  have e : (a - b) * 2 ^ (UU - k) = a * 2 ^ (UU - k) - b * 2 ^ (UU - k) := Int.sub_mul ..
  have := sub_exact ha hb (by rw [← e]; exact rp_sc k _ h)
  unfold Sc; rwa [e]
theorem sc_mul {j k x y : Nat} {a b : Int} (ha : Sc j x a) (hb : Sc k y b) (hjk : j + k ≤ UU) (h : (a * b).natAbs < 2 ^ 53) :
    ∃ r, double.mul x y = some r ∧ Sc (j + k) r (a * b) := by
  refine mul_exact ha hb ?_ (rp_sc (j + k) _ h)
  have : 2 ^ (UU - j) * 2 ^ (UU - k) = (2 : Int) ^ (UU - (j + k)) * 2 ^ UU := by
    rw [← Int.pow_add, ← Int.pow_add]; congr 1; omega
  calc a * 2 ^ (UU - j) * (b * 2 ^ (UU - k)) = a * b * (2 ^ (UU - j) * 2 ^ (UU - k)) := by
        simp only [Int.mul_assoc, Int.mul_left_comm]
    _ = _ := by rw [this]; simp only [Int.mul_assoc]
theorem sc_widen {k x : Nat} {a : Int} (ha : Sc k x a) (hk : k + 1 ≤ UU) : Sc (k + 1) x (2 * a) := by
  unfold Sc at *
  have : (2 : Int) ^ (UU - k) = 2 * 2 ^ (UU - (k + 1)) := by
    rw [show UU - k = (UU - (k + 1)) + 1 by omega, Int.pow_succ, Int.mul_comm]
  rw [this] at ha
  rwa [show 2 * a * 2 ^ (UU - (k + 1)) = a * (2 * 2 ^ (UU - (k + 1))) by simp only [Int.mul_assoc, Int.mul_left_comm]]
theorem sc_int (n : Int) (h : n.natAbs < 2 ^ 53) : Sc 0 (double.write (.number (n < 0) n.natAbs 0)) n := int_exact n h
theorem sc_order {k x y : Nat} {a b : Int} (ha : Sc k x a) (hb : Sc k y b) : double.order x y = some (compare a b) := by
  rw [order_exact ha hb]
  have hp : (0 : Int) < 2 ^ (UU - k) := Int.pow_pos (by decide)
  generalize (2 : Int) ^ (UU - k) = P at hp
  congr 1
  exact (compare_scale a b P hp).symm

/-- What a word stands for, by its sign and its rung. -/
def rd (s : Bool) (y : Nat) : Datum :=
  if y < double.binade then .number s y double.leastPlace
  else if y < double.infRung then .number s (double.binade + y % double.binade) (double.leastPlace + (y / double.binade - 1 : Nat))
  else if y = double.infRung then .infinity s
  else .nan s (y - double.infRung)
theorem read_rd (x : Nat) : double.read x = rd (x / 9223372036854775808 % 2 == 1) (x % 9223372036854775808) := rfl
theorem rd_not (s : Bool) (y : Nat) : rd (!s) y = (rd s y).opposite := by
  unfold rd
  by_cases c1 : y < double.binade
  · rw [if_pos c1, if_pos c1]; rfl
  · rw [if_neg c1, if_neg c1]
    by_cases c2 : y < double.infRung
    · rw [if_pos c2, if_pos c2]; rfl
    · rw [if_neg c2, if_neg c2]
      by_cases c3 : y = double.infRung
      · rw [if_pos c3, if_pos c3]; rfl
      · rw [if_neg c3, if_neg c3]; rfl
/-- The sign bit turned. -/
theorem read_neg (x : Nat) (h : x < 2 ^ 64) : double.read (x ^^^ 2 ^ 63) = (double.read x).opposite := by
  have h1 : (x ^^^ 2 ^ 63) % 9223372036854775808 = x % 9223372036854775808 := by
    rw [show 9223372036854775808 = 2 ^ 63 from rfl, Nat.xor_mod_two_pow]; simp
  have h2 : ((x ^^^ 2 ^ 63) / 9223372036854775808 % 2 == 1) = !(x / 9223372036854775808 % 2 == 1) := by
    rw [show 9223372036854775808 = 2 ^ 63 from rfl, Nat.xor_div_two_pow]
    have hx : x / 2 ^ 63 < 2 := by omega
    generalize x / 2 ^ 63 = y at hx
    have : y = 0 ∨ y = 1 := by omega
    rcases this with rfl | rfl <;> decide
  rw [read_rd, read_rd, h1, h2, rd_not]
theorem ex_neg {x : Nat} {a : Int} (hx : x < 2 ^ 64) (h : Ex x a) : Ex (x ^^^ 2 ^ 63) (-a) := by
  unfold Ex; rw [read_neg x hx]; exact dv_opposite h
theorem sc_neg {k x : Nat} {a : Int} (hx : x < 2 ^ 64) (h : Sc k x a) : Sc k (x ^^^ 2 ^ 63) (-a) := by
  have := ex_neg hx h
  unfold Sc; rwa [Int.neg_mul]
end Tr
