/- Laws for the walk. -/
import Derived.Test.YtepefgkihnjjaaaGreatZzz
import Derived.Test.YtepefgkihnjjaaaGreatZat
import Derived.Test.YtepefgkihnjjaaaGreatZav
import Derived.Test.YtepefgkihnjjaaaGreatZay
import Derived.Test.YtepefgkihnjjaaaGreatZba
import Derived.WalkKit
import Derived.Laws.Rows
set_option linter.unusedVariables false
namespace Go.Proofs.YtepefgkihnjjaaaGreat
open Go.RowKit Tr
def oneQ : QC := ⟨1,0⟩
theorem shortF_lt {q : Rat} (h1 : q.num.natAbs < 256 ^ 1024) (h2 : q.den < 256 ^ 1024) : ShortF q := ⟨by rw [size_strN]; exact byteLE_le h1,by rw [size_strN]; exact byteLE_le h2⟩
theorem short_one : ShortZ oneQ := ⟨shortF_lt (by decide +kernel) (by decide +kernel),shortF_lt (by decide +kernel) (by decide +kernel)⟩
def CornerOk (v0 v1 v2 v3 : Value) : Prop := PtOk v0 ∧ PtOk v1 ∧ PtOk v2 ∧ GaussOk v3 ∧ v3 ≠ encG 0 0 ∧ v3 ≠ encG 1 0
theorem corner_nine (p q s : Pt) (a b : QC) : ∃ i n1 s1 n2 s2 n3 s3 n4 s4,cornerV p q s a b = .agg #[.bool i,.bool n1,.string s1,.bool n2,.string s2,.bool n3,.string s3,.bool n4,.string s4] := by
 unfold cornerV
 split
 ·exact ⟨_,_,_,_,_,_,_,_,_,rfl⟩
 ·exact outP_nine _ _
theorem GInt_one (w : World) : Calls Tryz.prog 14 #[.int .i64 1,.int .i64 0] w fun e w' => e = .returned (encG 1 0) ∧ Below w.heap.size w w' :=
 GInt_any 1 0 (by decide) (by decide) (by decide) (by decide) w
theorem encG_eight (a b : Rat) : ∃ n1 s1 n2 s2 n3 s3 n4 s4,encG a b = .agg #[.bool n1,.string s1,.bool n2,.string s2,.bool n3,.string s3,.bool n4,.string s4] := ⟨_,_,_,_,_,_,_,_,rfl⟩
def CornerR (v0 v1 v2 v3 : Value) (e : Ending) : Prop :=
 (¬ CornerOk v0 v1 v2 v3 ∧ e = .returned (.tuple #[zP,.int .i64 2])) ∨
 ∃ (p q s : Pt) (z : QC),v0 = encP p ∧ v1 = encP q ∧ v2 = encP s ∧ v3 = encQ z ∧ ShortP p ∧ ShortP q ∧ ShortP s ∧ ShortZ z ∧ encQ z ≠ encG 0 0 ∧ encQ z ≠ encG 1 0 ∧ e = .returned (.tuple #[cornerV p q s z oneQ,.int .i64 (cornerC p q s z oneQ)])
set_option maxHeartbeats 1600000 in
theorem Corner_any (i0 i1 i2 n00 n01 n02 n03 n10 n11 n12 n13 n20 n21 n22 n23 n30 n31 n32 n33 : Bool) (s00 s01 s02 s03 s10 s11 s12 s13 s20 s21 s22 s23 s30 s31 s32 s33 : ByteArray) (l00 : s00.size < 274877906944) (l01 : s01.size < 274877906944) (l02 : s02.size < 274877906944) (l03 : s03.size < 274877906944) (l10 : s10.size < 274877906944) (l11 : s11.size < 274877906944) (l12 : s12.size < 274877906944) (l13 : s13.size < 274877906944) (l20 : s20.size < 274877906944) (l21 : s21.size < 274877906944) (l22 : s22.size < 274877906944) (l23 : s23.size < 274877906944) (l30 : s30.size < 274877906944) (l31 : s31.size < 274877906944) (l32 : s32.size < 274877906944) (l33 : s33.size < 274877906944) (w : World) :
  Calls Tryz.prog 10 #[.agg #[.bool i0,.bool n00,.string s00,.bool n01,.string s01,.bool n02,.string s02,.bool n03,.string s03],.agg #[.bool i1,.bool n10,.string s10,.bool n11,.string s11,.bool n12,.string s12,.bool n13,.string s13],.agg #[.bool i2,.bool n20,.string s20,.bool n21,.string s21,.bool n22,.string s22,.bool n23,.string s23],.agg #[.bool n30,.string s30,.bool n31,.string s31,.bool n32,.string s32,.bool n33,.string s33]] w fun e w' => CornerR (.agg #[.bool i0,.bool n00,.string s00,.bool n01,.string s01,.bool n02,.string s02,.bool n03,.string s03]) (.agg #[.bool i1,.bool n10,.string s10,.bool n11,.string s11,.bool n12,.string s12,.bool n13,.string s13]) (.agg #[.bool i2,.bool n20,.string s20,.bool n21,.string s21,.bool n22,.string s22,.bool n23,.string s23]) (.agg #[.bool n30,.string s30,.bool n31,.string s31,.bool n32,.string s32,.bool n33,.string s33]) e ∧ Below w.heap.size w w' := by
 by_cases h0 : PtOk (.agg #[.bool i0,.bool n00,.string s00,.bool n01,.string s01,.bool n02,.string s02,.bool n03,.string s03])
 case neg =>
  refine (nc_case0 _ _ _ _ _ _ _ _ _ _ _ _ _ _ _ _ _ _ _ _ _ _ _ _ _ _ _ _ _ _ _ _ _ _ _  (fun w => SMay_any i0 n00 n01 n02 n03 s00 s01 s02 s03 l00 l01 l02 l03 false (by simp [h0]) w) w).mono ?_
  rintro _ w' ⟨rfl,hb⟩
  exact ⟨.inl ⟨fun h => h0 h.1,rfl⟩,hb⟩
 by_cases h1 : PtOk (.agg #[.bool i1,.bool n10,.string s10,.bool n11,.string s11,.bool n12,.string s12,.bool n13,.string s13])
 case neg =>
  refine (nc_case1 _ _ _ _ _ _ _ _ _ _ _ _ _ _ _ _ _ _ _ _ _ _ _ _ _ _ _ _ _ _ _ _ _ _ _  (fun w => SMay_any i0 n00 n01 n02 n03 s00 s01 s02 s03 l00 l01 l02 l03 true (by simp [h0]) w) (fun w => SMay_any i1 n10 n11 n12 n13 s10 s11 s12 s13 l10 l11 l12 l13 false (by simp [h1]) w) w).mono ?_
  rintro _ w' ⟨rfl,hb⟩
  exact ⟨.inl ⟨fun h => h1 h.2.1,rfl⟩,hb⟩
 by_cases h2 : PtOk (.agg #[.bool i2,.bool n20,.string s20,.bool n21,.string s21,.bool n22,.string s22,.bool n23,.string s23])
 case neg =>
  refine (nc_case2 _ _ _ _ _ _ _ _ _ _ _ _ _ _ _ _ _ _ _ _ _ _ _ _ _ _ _ _ _ _ _ _ _ _ _  (fun w => SMay_any i0 n00 n01 n02 n03 s00 s01 s02 s03 l00 l01 l02 l03 true (by simp [h0]) w) (fun w => SMay_any i1 n10 n11 n12 n13 s10 s11 s12 s13 l10 l11 l12 l13 true (by simp [h1]) w) (fun w => SMay_any i2 n20 n21 n22 n23 s20 s21 s22 s23 l20 l21 l22 l23 false (by simp [h2]) w) w).mono ?_
  rintro _ w' ⟨rfl,hb⟩
  exact ⟨.inl ⟨fun h => h2 h.2.2.1,rfl⟩,hb⟩
 by_cases h3 : GaussOk (.agg #[.bool n30,.string s30,.bool n31,.string s31,.bool n32,.string s32,.bool n33,.string s33])
 case neg =>
  have e : (okB n30 n31 s30 s31 && okB n32 n33 s32 s33) = false := by
   rw [Bool.eq_false_iff]
   intro h
   rw [Bool.and_eq_true,okB_iff,okB_iff] at h
   exact h3 (gaussOk_iff.2 h)
  refine (nc_case3 _ _ _ _ _ _ _ _ _ _ _ _ _ _ _ _ _ _ _ _ _ _ _ _ _ _ _ _ _ _ _ _ _ _ _  (fun w => SMay_any i0 n00 n01 n02 n03 s00 s01 s02 s03 l00 l01 l02 l03 true (by simp [h0]) w) (fun w => SMay_any i1 n10 n11 n12 n13 s10 s11 s12 s13 l10 l11 l12 l13 true (by simp [h1]) w) (fun w => SMay_any i2 n20 n21 n22 n23 s20 s21 s22 s23 l20 l21 l22 l23 true (by simp [h2]) w) (fun w => e ▸ GMay_any n30 n31 n32 n33 s30 s31 s32 s33 l30 l31 l32 l33 w) w).mono ?_
  rintro _ w' ⟨rfl,hb⟩
  exact ⟨.inl ⟨fun h => h3 h.2.2.2.1,rfl⟩,hb⟩
 have e3 : (okB n30 n31 s30 s31 && okB n32 n33 s32 s33) = true := by
  rw [Bool.and_eq_true,okB_iff,okB_iff]
  exact gaussOk_iff.1 h3
 by_cases h4 : .agg #[.bool n30,.string s30,.bool n31,.string s31,.bool n32,.string s32,.bool n33,.string s33] = encG 0 0
 case pos =>
  refine (nc_case4 _ _ _ _ _ _ _ _ _ _ _ _ _ _ _ _ _ _ _ _ _ _ _ _ _ _ _ _ _ _ _ _ _ _ _  (fun w => SMay_any i0 n00 n01 n02 n03 s00 s01 s02 s03 l00 l01 l02 l03 true (by simp [h0]) w) (fun w => SMay_any i1 n10 n11 n12 n13 s10 s11 s12 s13 l10 l11 l12 l13 true (by simp [h1]) w) (fun w => SMay_any i2 n20 n21 n22 n23 s20 s21 s22 s23 l20 l21 l22 l23 true (by simp [h2]) w) (fun w => e3 ▸ GMay_any n30 n31 n32 n33 s30 s31 s32 s33 l30 l31 l32 l33 w) (fun w => GZero_any n30 n31 n32 n33 s30 s31 s32 s33 true (by simp [h4]) w) w).mono ?_
  rintro _ w' ⟨rfl,hb⟩
  exact ⟨.inl ⟨fun h => h.2.2.2.2.1 h4,rfl⟩,hb⟩
 obtain ⟨m1,t1,m2,t2,m3,t3,m4,t4,eo⟩ := encG_eight 1 0
 have G1 := GInt_one
 rw [eo] at G1
 by_cases h5 : .agg #[.bool n30,.string s30,.bool n31,.string s31,.bool n32,.string s32,.bool n33,.string s33] = encG 1 0
 case pos =>
  refine (nc_case5 _ _ _ _ _ _ _ _ _ _ _ _ _ _ _ _ _ _ _ _ _ _ _ _ _ _ _ _ _ _ _ _ _ _ _ _ _ _ _ _ _ _ _  (fun w => SMay_any i0 n00 n01 n02 n03 s00 s01 s02 s03 l00 l01 l02 l03 true (by simp [h0]) w) (fun w => SMay_any i1 n10 n11 n12 n13 s10 s11 s12 s13 l10 l11 l12 l13 true (by simp [h1]) w) (fun w => SMay_any i2 n20 n21 n22 n23 s20 s21 s22 s23 l20 l21 l22 l23 true (by simp [h2]) w) (fun w => e3 ▸ GMay_any n30 n31 n32 n33 s30 s31 s32 s33 l30 l31 l32 l33 w) (fun w => GZero_any n30 n31 n32 n33 s30 s31 s32 s33 false (by simp [h4]) w) G1 (fun w => run_eql_g w n30 n31 n32 n33 m1 m2 m3 m4 s30 s31 s32 s33 t1 t2 t3 t4 true (by rw [← eo]; simp [h5])) w).mono ?_
  rintro _ w' ⟨rfl,hb⟩
  exact ⟨.inl ⟨fun h => h.2.2.2.2.2 h5,rfl⟩,hb⟩
 obtain ⟨p,ep,hp⟩ := h0
 obtain ⟨q,eq,hq⟩ := h1
 obtain ⟨s,es,hs⟩ := h2
 obtain ⟨z,ez,hz⟩ := h3
 obtain ⟨oi,on1,os1,on2,os2,on3,os3,on4,os4,ec⟩ := corner_nine p q s z oneQ
 have C1 := fun w => corner_any p q s z oneQ hp hq hs hz short_one w
 rw [← ep,← eq,← es,show encQ z = .agg #[.bool n30,.string s30,.bool n31,.string s31,.bool n32,.string s32,.bool n33,.string s33] from ez.symm,show encQ oneQ = _ from eo,ec] at C1
 have h0 : PtOk (.agg #[.bool i0,.bool n00,.string s00,.bool n01,.string s01,.bool n02,.string s02,.bool n03,.string s03]) := ⟨p,ep,hp⟩
 have h1 : PtOk (.agg #[.bool i1,.bool n10,.string s10,.bool n11,.string s11,.bool n12,.string s12,.bool n13,.string s13]) := ⟨q,eq,hq⟩
 have h2 : PtOk (.agg #[.bool i2,.bool n20,.string s20,.bool n21,.string s21,.bool n22,.string s22,.bool n23,.string s23]) := ⟨s,es,hs⟩
 refine (nc_case6 _ _ _ _ _ _ _ _ _ _ _ _ _ _ _ _ _ _ _ _ _ _ _ _ _ _ _ _ _ _ _ _ _ _ _ _ _ _ _ _ _ _ _  (fun w => SMay_any i0 n00 n01 n02 n03 s00 s01 s02 s03 l00 l01 l02 l03 true (by simp [h0]) w) (fun w => SMay_any i1 n10 n11 n12 n13 s10 s11 s12 s13 l10 l11 l12 l13 true (by simp [h1]) w) (fun w => SMay_any i2 n20 n21 n22 n23 s20 s21 s22 s23 l20 l21 l22 l23 true (by simp [h2]) w) (fun w => e3 ▸ GMay_any n30 n31 n32 n33 s30 s31 s32 s33 l30 l31 l32 l33 w) (fun w => GZero_any n30 n31 n32 n33 s30 s31 s32 s33 false (by simp [h4]) w) G1 (fun w => run_eql_g w n30 n31 n32 n33 m1 m2 m3 m4 s30 s31 s32 s33 t1 t2 t3 t4 false (by rw [← eo]; simp [h5])) _ _ _ _ _ _ _ _ _ _ C1 w).mono ?_
 rintro _ w' ⟨rfl,hb⟩
 exact ⟨.inr ⟨p,q,s,z,ep,eq,es,ez,hp,hq,hs,hz,fun h => h4 (ez.trans h),fun h => h5 (ez.trans h),by rw [ec]⟩,hb⟩
end Go.Proofs.YtepefgkihnjjaaaGreat
namespace Go.Proofs.YtepefgkihnjjaaaGreat
open Go.RowKit Tr
def toP (x y : QC) : Pt := if y = ⟨0,0⟩ then none else some (x / y)
theorem outP_toP (x y : QC) : outP x y = outPt (toP x y) ∧ outPC x y = outPtC (toP x y) := by
 unfold outP outPC outPt outPtC toP
 by_cases hy : y = ⟨0,0⟩
 ·rw [if_pos hy,if_pos hy,if_pos hy]
  exact ⟨(if_pos trivial).symm,(if_pos trivial).symm⟩
 ·rw [if_neg hy,if_neg hy,if_neg hy]
  exact ⟨rfl,rfl⟩
theorem qone_mul (x : QC) : oneQ * x = x := by unfold oneQ; apply qc_ext <;> simp only [qmr,qmi] <;> grind
theorem qmul_one (x : QC) : x * oneQ = x := by unfold oneQ; apply qc_ext <;> simp only [qmr,qmi] <;> grind
theorem qmul_zero (x : QC) : x * ⟨0,0⟩ = ⟨0,0⟩ := by apply qc_ext <;> simp only [qmr,qmi] <;> grind
theorem oneQ_ne : oneQ ≠ ⟨0,0⟩ := by decide
theorem dt_scale1 (k x y z t : QC) : dt (k * x) (k * y) z t = k * dt x y z t := by
 unfold dt
 apply qc_ext <;> simp only [qmr,qmi,qsr,qsi] <;> grind
theorem dt_scale2 (k x y z t : QC) : dt x y (k * z) (k * t) = k * dt x y z t := by
 unfold dt
 apply qc_ext <;> simp only [qmr,qmi,qsr,qsi] <;> grind
theorem dt_self (x y : QC) : dt x y x y = ⟨0,0⟩ := by
 unfold dt
 rw [mulc]; exact sub0.2 rfl
theorem dt_zero (x y : QC) : dt x y ⟨0,0⟩ ⟨0,0⟩ = ⟨0,0⟩ := by
 unfold dt
 rw [qmul_zero,qmul_zero]; exact sub0.2 rfl
theorem dt_sum (d e x0 y0 x1 y1 x2 y2 : QC) : dt (d * x2 + e * x1) (d * y2 + e * y1) x0 y0 = d * dt x2 y2 x0 y0 + e * dt x1 y1 x0 y0 := by
 unfold dt
 apply qc_ext <;> simp only [qmr,qmi,qar,qai,qsr,qsi] <;> grind
theorem toP_co {x y : QC} (h : ¬ (x = ⟨0,0⟩ ∧ y = ⟨0,0⟩)) : ∃ k,k ≠ ⟨0,0⟩ ∧ ptX (toP x y) = k * x ∧ ptY (toP x y) = k * y := by
 unfold toP
 by_cases hy : y = ⟨0,0⟩
 ·have hx : x ≠ ⟨0,0⟩ := fun e => h ⟨e,hy⟩
  refine ⟨oneQ / x,fun e => ?_,?_,?_⟩
  ·have := div_mul (x := oneQ) hx
   rw [e,mulc,qmul_zero] at this
   exact oneQ_ne this.symm
  ·rw [if_pos hy,div_mul hx]; rfl
  ·rw [if_pos hy,hy,qmul_zero]; rfl
 ·refine ⟨oneQ / y,fun e => ?_,?_,?_⟩
  ·have := div_mul (x := oneQ) hy
   rw [e,mulc,qmul_zero] at this
   exact oneQ_ne this.symm
  ·rw [if_neg hy]
   refine div_eq hy ?_
   rw [mula,mulc x y,← mula,div_mul hy,qone_mul]
  ·rw [if_neg hy,div_mul hy]; rfl
theorem pt_unlike {p q : Pt} (h : dt (ptX p) (ptY p) (ptX q) (ptY q) ≠ ⟨0,0⟩) : p ≠ q := fun e => by
 rw [e] at h
 exact h (dt_self _ _)
theorem over_mul {d1 d2 A : QC} : d1 * oneQ * d2 + d2 * A * -d1 = d1 * d2 * (oneQ - A) := by
 rw [qmul_one]
 unfold oneQ
 apply qc_ext <;> simp only [qmr,qmi,qar,qai,qsr,qsi,qnr,qni] <;> grind
theorem back_eq {A B d1 d2 x1 x2 : QC} (h : B * A = oneQ) : -d2 * oneQ * x1 + -d1 * B * x2 = -B * (d1 * oneQ * x2 + d2 * A * x1) := by
 have e : B * (d2 * A * x1) = d2 * x1 := by
  have : B * (d2 * A * x1) = (B * A) * (d2 * x1) := by ac_rfl
  rw [this,h,qone_mul]
 rw [qmul_one,qmul_one,muld,nmul,nmul,nmul,nmul,nmul,e,addc]
 congr 2
 ac_rfl
theorem bad_swap {p q s : Pt} (h : ¬ badP p q s) : ¬ badP p s q := by
 unfold badP lastBad at h ⊢
 simp only [not_or] at h ⊢
 exact ⟨fun e => h.2.2 e.symm,fun e => h.2.1 e.symm,fun e => h.1 e.symm⟩
theorem neg_ne {x : QC} (h : x ≠ ⟨0,0⟩) : -x ≠ ⟨0,0⟩ := fun e => h (by
 have : x = - -x := (nneg x).symm
 rw [this,e]
 apply qc_ext <;> simp only [qnr,qni] <;> grind)
theorem corner_plain {P P1 P2 p : Pt} {A : QC} (hA0 : A ≠ ⟨0,0⟩) (hA1 : A ≠ oneQ) (hb : ¬ badP P P1 P2) (hp : p = toP (cX P P1 P2 A oneQ) (cY P P1 P2 A oneQ)) :
  ratP P P1 p P2 = some A ∧ (p ≠ P ∧ p ≠ P1 ∧ p ≠ P2) ∧ (P ≠ P1 ∧ P ≠ P2 ∧ P1 ≠ P2) ∧ cornerV P P2 P1 (oneQ / A) oneQ = cornerV P P1 P2 A oneQ ∧ cornerC P P2 P1 (oneQ / A) oneQ = cornerC P P1 P2 A oneQ ∧ cornerV P P1 P2 A oneQ = outPt p ∧ cornerC P P1 P2 A oneQ = outPtC p := by
 have hb' := hb
 unfold badP lastBad at hb'
 simp only [not_or] at hb'
 have d01 := dt_ne hb'.1
 have d12 := dt_ne hb'.2.1
 have d20 := dt_ne hb'.2.2
 obtain ⟨X,hX⟩ : ∃ X,X = cX P P1 P2 A oneQ := ⟨_,rfl⟩
 obtain ⟨Y,hY⟩ : ∃ Y,Y = cY P P1 P2 A oneQ := ⟨_,rfl⟩
 have hX1 : X = dt (ptX P) (ptY P) (ptX P1) (ptY P1) * oneQ * ptX P2 + dt (ptX P2) (ptY P2) (ptX P) (ptY P) * A * ptX P1 := hX
 have hY1 : Y = dt (ptX P) (ptY P) (ptX P1) (ptY P1) * oneQ * ptY P2 + dt (ptX P2) (ptY P2) (ptX P) (ptY P) * A * ptY P1 := hY
 have e1 : dt (ptX P1) (ptY P1) X Y = dt (ptX P) (ptY P) (ptX P1) (ptY P1) * oneQ * dt (ptX P1) (ptY P1) (ptX P2) (ptY P2) := by rw [hX1,hY1,dt_lin]
 have e2 : dt X Y (ptX P2) (ptY P2) = dt (ptX P2) (ptY P2) (ptX P) (ptY P) * A * dt (ptX P1) (ptY P1) (ptX P2) (ptY P2) := by rw [hX1,hY1,dt_lin4]
 have e0 : dt X Y (ptX P) (ptY P) = dt (ptX P) (ptY P) (ptX P1) (ptY P1) * dt (ptX P2) (ptY P2) (ptX P) (ptY P) * (oneQ - A) := by
  rw [hX1,hY1,dt_sum,dt_neg (ptX P) (ptY P) (ptX P1) (ptY P1),over_mul]
 have n1 : dt (ptX P1) (ptY P1) X Y ≠ ⟨0,0⟩ := by rw [e1]; exact mul0 (mul0 d01 oneQ_ne) d12
 have n2 : dt X Y (ptX P2) (ptY P2) ≠ ⟨0,0⟩ := by rw [e2]; exact mul0 (mul0 d20 hA0) d12
 have n0 : dt X Y (ptX P) (ptY P) ≠ ⟨0,0⟩ := by rw [e0]; exact mul0 (mul0 d01 d20) (fun e => hA1 (sub0.1 e).symm)
 have hXY : ¬ (X = ⟨0,0⟩ ∧ Y = ⟨0,0⟩) := fun ⟨h1,h2⟩ => n1 (by rw [h1,h2]; exact dt_zero _ _)
 rw [← hX,← hY] at hp
 obtain ⟨k,hk,k1,k2⟩ := toP_co hXY
 rw [← hp] at k1 k2
 have hB := div_mul (x := oneQ) hA0
 have hcv : cornerV P P1 P2 A oneQ = outP X Y := by unfold cornerV; rw [if_neg hb,hX,hY]
 have hcc : cornerC P P1 P2 A oneQ = outPC X Y := by unfold cornerC; rw [if_neg hb,hX,hY]
 have hB0 : oneQ / A ≠ ⟨0,0⟩ := fun e => by
  rw [e,mulc,qmul_zero] at hB
  exact oneQ_ne hB.symm
 have hs : cX P P2 P1 (oneQ / A) oneQ = -(oneQ / A) * X ∧ cY P P2 P1 (oneQ / A) oneQ = -(oneQ / A) * Y := by
  have h1 : cX P P2 P1 (oneQ / A) oneQ = dt (ptX P) (ptY P) (ptX P2) (ptY P2) * oneQ * ptX P1 + dt (ptX P1) (ptY P1) (ptX P) (ptY P) * (oneQ / A) * ptX P2 := rfl
  have h2 : cY P P2 P1 (oneQ / A) oneQ = dt (ptX P) (ptY P) (ptX P2) (ptY P2) * oneQ * ptY P1 + dt (ptX P1) (ptY P1) (ptX P) (ptY P) * (oneQ / A) * ptY P2 := rfl
  rw [h1,h2,dt_neg (ptX P) (ptY P) (ptX P1) (ptY P1),dt_neg (ptX P2) (ptY P2) (ptX P) (ptY P),back_eq hB,back_eq hB,hX1,hY1]
  exact ⟨rfl,rfl⟩
 have hsc := outP_scale (neg_ne hB0) X Y
 refine ⟨?_,⟨?_,?_,?_⟩,⟨?_,?_,?_⟩,?_,?_,?_,?_⟩
 ·have m1 : dt (ptX P1) (ptY P1) (ptX p) (ptY p) = k * dt (ptX P1) (ptY P1) X Y := by rw [k1,k2,dt_scale2]
  have m2 : dt (ptX p) (ptY p) (ptX P2) (ptY P2) = k * dt X Y (ptX P2) (ptY P2) := by rw [k1,k2,dt_scale1]
  have hd : dt (ptX P1) (ptY P1) (ptX p) (ptY p) * dt (ptX P2) (ptY P2) (ptX P) (ptY P) ≠ ⟨0,0⟩ := by rw [m1]; exact mul0 (mul0 hk n1) d20
  show (if dt (ptX P1) (ptY P1) (ptX p) (ptY p) * dt (ptX P2) (ptY P2) (ptX P) (ptY P) = ⟨0,0⟩ then none else some (dt (ptX P) (ptY P) (ptX P1) (ptY P1) * dt (ptX p) (ptY p) (ptX P2) (ptY P2) / (dt (ptX P1) (ptY P1) (ptX p) (ptY p) * dt (ptX P2) (ptY P2) (ptX P) (ptY P)))) = some A
  rw [if_neg hd]
  congr 1
  refine div_eq hd ?_
  rw [m1,m2,e1,e2,qmul_one]
  ac_rfl
 ·refine pt_unlike ?_
  rw [k1,k2,dt_scale1]; exact mul0 hk n0
 ·refine (pt_unlike ?_).symm
  rw [k1,k2,dt_scale2]; exact mul0 hk n1
 ·refine pt_unlike ?_
  rw [k1,k2,dt_scale1]; exact mul0 hk n2
 ·exact pt_unlike d01
 ·exact (pt_unlike d20).symm
 ·exact pt_unlike d12
 ·rw [hcv]
  unfold cornerV
  rw [if_neg (bad_swap hb),hs.1,hs.2,hsc.1]
 ·rw [hcc]
  unfold cornerC
  rw [if_neg (bad_swap hb),hs.1,hs.2,hsc.2]
 ·rw [hcv,hp]; exact (outP_toP X Y).1
 ·rw [hcc,hp]; exact (outP_toP X Y).2
theorem RL_shortF {q : Rat} {k : Nat} (h : RL q k) (hk : k ≤ 200) : ShortF q := by
 have h1 : (4294967296 : Nat) ^ k ≤ 4294967296 ^ 200 := Nat.pow_le_pow_right (by decide) hk
 have h2 : (4294967296 : Nat) ^ 200 ≤ 256 ^ 1024 := by decide +kernel
 have key : ∀ n,(words n).length ≤ k → n < 256 ^ 1024 := fun n hn => by
  have h3 := lt_words n
  have h4 : (4294967296 : Nat) ^ (words n).length ≤ 4294967296 ^ k := Nat.pow_le_pow_right (by decide) hn
  exact Nat.lt_of_lt_of_le h3 (Nat.le_trans h4 (Nat.le_trans h1 h2))
 exact shortF_lt (key _ h.1) (key _ h.2)
theorem short_over {A : QC} (hA0 : A ≠ ⟨0,0⟩) (h1 : RL A.re 8) (h2 : RL A.im 8) : ShortZ (oneQ / A) := by
 have hn : A.re * A.re + A.im * A.im ≠ 0 := fun e => hA0 (by
  have := norm_zero.1 e
  cases A; simp at this; rw [this.1,this.2])
 have o : ZL oneQ 2 := ⟨RL_i64 1 (by decide) (by decide),RL_i64 0 (by decide) (by decide)⟩
 have := ZL_div hn o (⟨h1,h2⟩ : ZL A 8)
 exact ⟨RL_shortF this.1 (by decide),RL_shortF this.2 (by decide)⟩
end Go.Proofs.YtepefgkihnjjaaaGreat
namespace Tr
open Go
section
variable {P : Program}
theorem run_loadVar_part (w : World) (g off : Nat) (t ty : TypeId) (cs vs : Array Value) (fr : Nat × Nat) (d : TypeDesc) (hg : w.heap[g]? = some (.cells cs t fr))
  (hu : P.underlying ty = some d) (hd : (match d with | .struct _ | .array _ _ => true | _ => false) = true) (hi : (P.info? ty).map (·.size) = some vs.size)
  (hv : (cs.toList.drop off).take vs.size = vs.toList) :
  (loadVar ty ⟨g,off,none⟩).run P w = .ok (.agg vs) w := by
 have hl : (loadCells ⟨g,off,none⟩ vs.toList.length).run P w = .ok vs.toList.toArray w :=
  run_loadCells_list (P := P) w ⟨g,off,none⟩ vs.toList (fun j v hj => by
   have hadd : (⟨g,off,none⟩ : Addr).add j = ⟨g,off + j,none⟩ := by unfold Addr.add; split <;> simp_all
   rw [hadd,cell_of_row w g _ cs t fr hg]
   rw [← hv,List.getElem?_take] at hj
   split at hj
   ·rw [List.getElem?_drop] at hj
    simpa using hj
   ·cases hj)
 cases hq : P.info? ty with
 | none => simp [hq] at hi
 | some i =>
  have hs : i.size = vs.size := by simpa [hq] using hi
  have hagg : (isAgg ty).run P w = .ok true w := by
   unfold isAgg
   rw [Sem.run_bind,run_underlying hu w]
   cases d <;> simp_all
  simp only [Array.length_toList,Array.toArray_toList] at hl
  simp [loadVar,Sem.run_bind,hagg,Go.sizeOf,typeInfo,hq,hs,hl]
theorem exec_load_part {o : Oper} {a : Act} {w : World} (ty : TypeId) (x : Operand) (ho : o.op = .load ty x)
  (g off : Nat) (hx : a.eval x = .pointer (some ⟨g,off,none⟩)) (t : TypeId) (cs vs : Array Value) (fr : Nat × Nat) (d : TypeDesc) (hg : w.heap[g]? = some (.cells cs t fr))
  (hu : P.underlying ty = some d) (hd : (match d with | .struct _ | .array _ _ => true | _ => false) = true) (hi : (P.info? ty).map (·.size) = some vs.size)
  (hv : (cs.toList.drop off).take vs.size = vs.toList) : (execOp a.eval o).run P w = .ok (.value (.agg vs)) w := by
 unfold execOp
 simp only [ho,hx,Instr.loadAt,Instr.sureAddr,Sem.run_bind,Sem.run_pure,Result.andThen_ok,run_loadVar_part w g off t ty cs vs fr d hg hu hd hi hv]
theorem wpList_load_part {ops : Array Oper} {rest : List Oper} {o : Oper} {a : Act} {w : World} {Q : Exit → Act → World → Prop} (hgd : Region.wanted o (yielded ops a.tmps) = true) (ty : TypeId) (x : Operand) (ho : o.op = .load ty x)
  (g off : Nat) (hx : a.eval x = .pointer (some ⟨g,off,none⟩)) (t : TypeId) (cs vs : Array Value) (fr : Nat × Nat) (d : TypeDesc) (hg : w.heap[g]? = some (.cells cs t fr))
  (hu : P.underlying ty = some d) (hd : (match d with | .struct _ | .array _ _ => true | _ => false) = true) (hi : (P.info? ty).map (·.size) = some vs.size)
  (hv : (cs.toList.drop off).take vs.size = vs.toList)
  (h : wpList P ops Q rest (a.put o.dst (.agg vs)) w) : wpList P ops Q (o :: rest) a w :=
 wpList_step fun K hK => by
  rw [if_pos hgd]
  unfold Oper.wp
  rw [exec_load_part ty x ho g off hx t cs vs fr d hg hu hd hi hv]
  exact hK _ _ h
end
end Tr
namespace Go.Proofs.YtepefgkihnjjaaaGreat
open Go.RowKit Tr
theorem encP_raw (p : Pt) (h : ShortP p) : ∃ i n1 s1 n2 s2 n3 s3 n4 s4,encP p = .agg #[.bool i,.bool n1,.string s1,.bool n2,.string s2,.bool n3,.string s3,.bool n4,.string s4] ∧ s1.size < 274877906944 ∧ s2.size < 274877906944 ∧ s3.size < 274877906944 ∧ s4.size < 274877906944 := by
 cases p with
 | none => exact ⟨_,_,_,_,_,_,_,_,_,rfl,by decide,by decide,by decide,by decide⟩
 | some z =>
  obtain ⟨l1,l2,l3,l4⟩ := short_size h
  exact ⟨_,_,_,_,_,_,_,_,_,rfl,l1,l2,l3,l4⟩
theorem encQ_raw (z : QC) (h : ShortZ z) : ∃ n1 s1 n2 s2 n3 s3 n4 s4,encQ z = .agg #[.bool n1,.string s1,.bool n2,.string s2,.bool n3,.string s3,.bool n4,.string s4] ∧ s1.size < 274877906944 ∧ s2.size < 274877906944 ∧ s3.size < 274877906944 ∧ s4.size < 274877906944 := by
 obtain ⟨l1,l2,l3,l4⟩ := short_size h
 exact ⟨_,_,_,_,_,_,_,_,rfl,l1,l2,l3,l4⟩
theorem Corner_of (p q s : Pt) (z : QC) (hp : ShortP p) (hq : ShortP q) (hs : ShortP s) (hz : ShortZ z) (z0 : z ≠ ⟨0,0⟩) (z1 : z ≠ oneQ) (w : World) :
  Calls Tryz.prog 10 #[encP p,encP q,encP s,encQ z] w fun e w' => e = .returned (.tuple #[cornerV p q s z oneQ,.int .i64 (cornerC p q s z oneQ)]) ∧ Below w.heap.size w w' := by
 obtain ⟨i0,n00,s00,n01,s01,n02,s02,n03,s03,e0,l00,l01,l02,l03⟩ := encP_raw p hp
 obtain ⟨i1,n10,s10,n11,s11,n12,s12,n13,s13,e1,l10,l11,l12,l13⟩ := encP_raw q hq
 obtain ⟨i2,n20,s20,n21,s21,n22,s22,n23,s23,e2,l20,l21,l22,l23⟩ := encP_raw s hs
 obtain ⟨n30,s30,n31,s31,n32,s32,n33,s33,e3,l30,l31,l32,l33⟩ := encQ_raw z hz
 have key := Corner_any i0 i1 i2 n00 n01 n02 n03 n10 n11 n12 n13 n20 n21 n22 n23 n30 n31 n32 n33 s00 s01 s02 s03 s10 s11 s12 s13 s20 s21 s22 s23 s30 s31 s32 s33 l00 l01 l02 l03 l10 l11 l12 l13 l20 l21 l22 l23 l30 l31 l32 l33 w
 rw [← e0,← e1,← e2,← e3] at key
 refine key.mono ?_
 rintro e w' ⟨h,hb⟩
 refine ⟨?_,hb⟩
 rcases h with ⟨h,_⟩ | ⟨p',q',s',z',a0,a1,a2,a3,_,_,_,_,_,_,he⟩
 ·exfalso
  exact h ⟨⟨p,rfl,hp⟩,⟨q,rfl,hq⟩,⟨s,rfl,hs⟩,⟨z,rfl,hz⟩,fun e => z0 (encQ_inj (y := ⟨0,0⟩) e.symm).symm,fun e => z1 (encQ_inj (y := ⟨1,0⟩) e.symm).symm⟩
 ·rw [encP_inj a0,encP_inj a1,encP_inj a2,encQ_inj (y := z) a3]; exact he
theorem encP_num (a b : Rat) : encP (some ⟨a,b⟩) = .agg #[.bool false,.bool (decide (a.num < 0)),.string (strN a.num.natAbs),.bool false,.string (strN a.den),.bool (decide (b.num < 0)),.string (strN b.num.natAbs),.bool false,.string (strN b.den)] := rfl
set_option maxHeartbeats 1600000 in
theorem At_any (i j : Int) (hi0 : -9223372036854775808 ≤ i) (hi1 : i < 9223372036854775808) (hj0 : -9223372036854775808 ≤ j) (hj1 : j < 9223372036854775808) (w : World) :
  Calls Tryz.prog 15 #[.int .i64 i,.int .i64 j] w fun e w' => e = .returned (encP (some ⟨i,j⟩)) ∧ Below w.heap.size w w' := by
 have HG := Lib.hid (fun w => GInt_any i j hi0 hi1 hj0 hj1 w)
 obtain ⟨n1,s1,n2,s2,n3,s3,n4,s4,e⟩ := encG_eight i j
 have ep : encP (some ⟨i,j⟩) = .agg #[.bool false,.bool n1,.string s1,.bool n2,.string s2,.bool n3,.string s3,.bool n4,.string s4] := by
  unfold encG at e
  simp only [Value.agg.injEq,Array.mk.injEq,List.cons.injEq,Value.bool.injEq,Value.string.injEq,and_true] at e
  obtain ⟨rfl,rfl,rfl,rfl,rfl,rfl,rfl,rfl⟩ := e
  rfl
 rw [e] at HG
 rw [ep]
 clear e ep hi0 hi1 hj0 hj1
 go_enter Tryz.func15,Tryz.ntmps15
 go_wp2_with fail
 refine (HG.out _).mono ?_
 rintro e w1 ⟨rfl,hb⟩
 obtain ⟨⟨y0,y1,y2,y3,y4,y5,y6,y7,y8⟩,h0,h1,h2,h3,h4,h5,h6,h7,h8⟩ := new_nine w _ _ _ _ _ _ _ _ _ _ hb
 have HB := Lib.hid (((Below.refl w.heap.size w).alloc (Nat.le_refl _) _).trans (hb.mono (by simp)))
 clear hb HG
 go_wp2_with fail
 refine bodyPost_ret (v := .agg #[.bool false,.bool n1,.string s1,.bool n2,.string s2,.bool n3,.string s3,.bool n4,.string s4]) (by simp [results,Tryz.results15,go_sem,y0,y1,y2,y3,y4,y5,y6,y7,y8]) rfl ⟨rfl,?_⟩
 exact set_nine HB.out (Nat.le_refl _)
theorem known_one : ¬ badP (some ⟨0,0⟩) (some ⟨1,0⟩) (some ⟨0,1⟩) ∧ cornerV (some ⟨0,0⟩) (some ⟨1,0⟩) (some ⟨0,1⟩) ⟨-1,0⟩ oneQ = encP (some ⟨1,1⟩) ∧ cornerC (some ⟨0,0⟩) (some ⟨1,0⟩) (some ⟨0,1⟩) ⟨-1,0⟩ oneQ = 0 := by
 have hb : ¬ badP (some ⟨0,0⟩) (some ⟨1,0⟩) (some ⟨0,1⟩) := by unfold badP; decide +kernel
 have ht : toP (cX (some ⟨0,0⟩) (some ⟨1,0⟩) (some ⟨0,1⟩) ⟨-1,0⟩ oneQ) (cY (some ⟨0,0⟩) (some ⟨1,0⟩) (some ⟨0,1⟩) ⟨-1,0⟩ oneQ) = some ⟨1,1⟩ := by decide +kernel
 have hs : ShortP (some ⟨1,1⟩) := ⟨shortF_lt (by decide +kernel) (by decide +kernel),shortF_lt (by decide +kernel) (by decide +kernel)⟩
 refine ⟨hb,?_,?_⟩
 ·unfold cornerV; rw [if_neg hb,(outP_toP _ _).1,ht]; exact if_pos hs
 ·unfold cornerC; rw [if_neg hb,(outP_toP _ _).2,ht]; exact if_pos hs
theorem known_two : cornerV (some ⟨0,0⟩) (some ⟨0,0⟩) (some ⟨0,1⟩) ⟨-1,0⟩ oneQ = zP ∧ cornerC (some ⟨0,0⟩) (some ⟨0,0⟩) (some ⟨0,1⟩) ⟨-1,0⟩ oneQ = 370 := by
 have hb : badP (some ⟨0,0⟩) (some ⟨0,0⟩) (some ⟨0,1⟩) := by unfold badP; decide +kernel
 refine ⟨?_,?_⟩
 ·unfold cornerV; exact if_pos hb
 ·unfold cornerC; exact if_pos hb
theorem short_small {z : QC} (h1 : z.re.num.natAbs < 256 ^ 1024) (h2 : z.re.den < 256 ^ 1024) (h3 : z.im.num.natAbs < 256 ^ 1024) (h4 : z.im.den < 256 ^ 1024) : ShortZ z := ⟨shortF_lt h1 h2,shortF_lt h3 h4⟩
set_option maxRecDepth 100000 in
set_option maxHeartbeats 6400000 in
theorem Known_any (w : World) : Calls Tryz.prog 6 #[] w fun e w' => e = .returned (.bool true) ∧ Below w.heap.size w w' := by
 have A00 := fun w => At_any 0 0 (by decide) (by decide) (by decide) (by decide) w
 have A10 := fun w => At_any 1 0 (by decide) (by decide) (by decide) (by decide) w
 have A01 := fun w => At_any 0 1 (by decide) (by decide) (by decide) (by decide) w
 have A11 := fun w => At_any 1 1 (by decide) (by decide) (by decide) (by decide) w
 have GM := fun w => GInt_any (-1) 0 (by decide) (by decide) (by decide) (by decide) w
 have u00 : ShortP (some ⟨0,0⟩) := short_small (by decide +kernel) (by decide +kernel) (by decide +kernel) (by decide +kernel)
 have u10 : ShortP (some ⟨1,0⟩) := short_small (by decide +kernel) (by decide +kernel) (by decide +kernel) (by decide +kernel)
 have u01 : ShortP (some ⟨0,1⟩) := short_small (by decide +kernel) (by decide +kernel) (by decide +kernel) (by decide +kernel)
 have sm : ShortZ ⟨-1,0⟩ := short_small (by decide +kernel) (by decide +kernel) (by decide +kernel) (by decide +kernel)
 have C1 := fun w => Corner_of (some ⟨0,0⟩) (some ⟨1,0⟩) (some ⟨0,1⟩) ⟨-1,0⟩ u00 u10 u01 sm (by decide) (by decide) w
 have C2 := fun w => Corner_of (some ⟨0,0⟩) (some ⟨0,0⟩) (some ⟨0,1⟩) ⟨-1,0⟩ u00 u00 u01 sm (by decide) (by decide) w
 rw [known_one.2.1,known_one.2.2] at C1
 rw [known_two.1,known_two.2] at C2
 have g : encG ((-1 : Int) : Rat) ((0 : Int) : Rat) = encQ ⟨-1,0⟩ := rfl
 rw [g] at GM
 have t00 : encP (some ⟨((0 : Int) : Rat),((0 : Int) : Rat)⟩) = encP (some ⟨0,0⟩) := rfl
 have t10 : encP (some ⟨((1 : Int) : Rat),((0 : Int) : Rat)⟩) = encP (some ⟨1,0⟩) := rfl
 have t01 : encP (some ⟨((0 : Int) : Rat),((1 : Int) : Rat)⟩) = encP (some ⟨0,1⟩) := rfl
 have t11 : encP (some ⟨((1 : Int) : Rat),((1 : Int) : Rat)⟩) = encP (some ⟨1,1⟩) := rfl
 rw [t00] at A00
 rw [t10] at A10
 rw [t01] at A01
 rw [t11] at A11
 obtain ⟨i0,n00,s00,n01,s01,n02,s02,n03,s03,e0⟩ := encP_nine (some ⟨0,0⟩)
 obtain ⟨i1,n10,s10,n11,s11,n12,s12,n13,s13,e1⟩ := encP_nine (some ⟨1,0⟩)
 obtain ⟨i2,n20,s20,n21,s21,n22,s22,n23,s23,e2⟩ := encP_nine (some ⟨0,1⟩)
 obtain ⟨i3,n30,s30,n31,s31,n32,s32,n33,s33,e3⟩ := encP_nine (some ⟨1,1⟩)
 obtain ⟨n40,s40,n41,s41,n42,s42,n43,s43,e4⟩ : ∃ n1 s1 n2 s2 n3 s3 n4 s4,encQ ⟨-1,0⟩ = .agg #[.bool n1,.string s1,.bool n2,.string s2,.bool n3,.string s3,.bool n4,.string s4] := encG_eight _ _
 rw [e0] at A00 C1 C2
 rw [e1] at A10 C1
 rw [e2] at A01 C1 C2
 rw [e3] at A11 C1
 rw [e4] at GM C1 C2
 unfold zP at C2
 have HA := Lib.hid (And.intro A00 (And.intro A10 (And.intro A01 (And.intro A11 GM))))
 have HC := Lib.hid (And.intro C1 C2)
 clear A00 A10 A01 A11 GM C1 C2 e0 e1 e2 e3 e4 u00 u10 u01 sm g t00 t10 t01 t11
 go_enter Tryz.func6,Tryz.ntmps6
 go_wp2_with fail
 refine (HA.out.1 _).mono ?_
 rintro e w1 ⟨rfl,b1⟩
 go_wp2_with fail
 refine (HA.out.2.1 _).mono ?_
 rintro e w2 ⟨rfl,b2⟩
 go_wp2_with fail
 refine (HA.out.2.2.1 _).mono ?_
 rintro e w3 ⟨rfl,b3⟩
 go_wp2_with fail
 refine (HA.out.2.2.2.2 _).mono ?_
 rintro e w4 ⟨rfl,b4⟩
 go_wp2_with fail
 refine (HC.out.1 _).mono ?_
 rintro e w5 ⟨rfl,b5⟩
 have hb5 := b1.trans ((b2.trans ((b3.trans ((b4.trans (b5.mono b4.size)).mono b3.size)).mono b2.size)).mono b1.size)
 have HB5 := Lib.hid hb5
 clear b1 b2 b3 b4 b5 hb5
 go_wp2_with fail
 obtain ⟨x5,hx5⟩ : ∃ x,x = w5.alloc (.cells #[.bool i3,.bool n30,.string s30,.bool n31,.string s31,.bool n32,.string s32,.bool n33,.string s33] 29) := ⟨_,rfl⟩
 rw [← hx5]
 have g5 : x5.heap[w5.heap.size]? = some (.cells #[.bool i3,.bool n30,.string s30,.bool n31,.string s31,.bool n32,.string s32,.bool n33,.string s33] 29 (0,0)) := by rw [hx5]; exact heap_alloc_new w5 _
 have b5 : Below w5.heap.size w5 x5 := by rw [hx5]; exact br.alloc (Nat.le_refl _) _
 have l5 : w5.heap.size < x5.heap.size := by rw [hx5]; simp
 have HX5 := Lib.hid (And.intro (HB5.out.trans (b5.mono HB5.out.size)) (And.intro g5 l5))
 clear hx5 g5 b5 l5 HB5
 refine (HA.out.1 _).mono ?_
 rintro e w6 ⟨rfl,b1⟩
 go_wp2_with fail
 refine (HA.out.1 _).mono ?_
 rintro e w7 ⟨rfl,b2⟩
 go_wp2_with fail
 refine (HA.out.2.2.1 _).mono ?_
 rintro e w8 ⟨rfl,b3⟩
 go_wp2_with fail
 refine (HA.out.2.2.2.2 _).mono ?_
 rintro e w9 ⟨rfl,b4⟩
 go_wp2_with fail
 refine (HC.out.2 _).mono ?_
 rintro e y5 ⟨rfl,b5⟩
 have hb5 := b1.trans ((b2.trans ((b3.trans ((b4.trans (b5.mono b4.size)).mono b3.size)).mono b2.size)).mono b1.size)
 have HY5 := Lib.hid hb5
 clear b1 b2 b3 b4 b5 hb5
 go_wp2_with fail
 obtain ⟨y6,hy6⟩ : ∃ x,x = y5.alloc (.cells #[.bool false,.bool false,.string ⟨#[]⟩,.bool false,.string ⟨#[]⟩,.bool false,.string ⟨#[]⟩,.bool false,.string ⟨#[]⟩] 29) := ⟨_,rfl⟩
 rw [← hy6]
 have b6 : Below y5.heap.size y5 y6 := by rw [hy6]; exact br.alloc (Nat.le_refl _) _
 have hxy : Below x5.heap.size x5 y6 := HY5.out.trans (b6.mono HY5.out.size)
 have g6 : y6.drew.heap[w5.heap.size]? = some (.cells #[.bool i3,.bool n30,.string s30,.bool n31,.string s31,.bool n32,.string s32,.bool n33,.string s33] 29 (0,0)) := (hxy.block _ HX5.out.2.2).trans HX5.out.2.1
 have l6 : w5.heap.size < y6.drew.heap.size := Nat.lt_of_lt_of_le HX5.out.2.2 hxy.size
 have HB6 := Lib.hid (HX5.out.1.trans (hxy.mono HX5.out.1.size))
 clear hy6 b6 hxy HX5 HY5 HC
 refine wp_region_inv [(.lit,[]),(.val,[])] (pickF [(1,fun v _ _ => v = .agg #[.bool i3,.bool n30,.string s30,.bool n31,.string s31,.bool n32,.string s32,.bool n33,.string s33])]) (by kernel_rfl) ?_ ?_ (by simp) (by simp) (by kernel_rfl)
 ·exact keeps_pick (by
   simp only [List.mem_cons,List.not_mem_nil,or_false]
   rintro p rfl
   exact keeps_pure _)
 refine ⟨_,fun f w1 h1 => exec_load_part 29 _ rfl w5.heap.size 0 rfl 29 _ #[.bool i3,.bool n30,.string s30,.bool n31,.string s31,.bool n32,.string s32,.bool n33,.string s33] (0,0) _ ((h1.block _ l6).trans g6) Tryz.underlying29 rfl (by kernel_rfl) (by kernel_rfl),?_⟩
 simp only [Act.put,nrA,nrB,nrC,Nat.reduceAdd]
 refine ⟨fun f w1 A1 k1 hA hN hd K hK => by
  go_simp
  refine (HA.out.2.2.2.1 w1).mono ?_
  rintro e w' ⟨rfl,hb⟩
  exact hK _ _ hb rfl,?_⟩
 simp only [Act.put,nrA,nrB,nrC,Nat.reduceAdd]
 intro f w1 h1 hF
 have i1 : f 1 = .agg #[.bool i3,.bool n30,.string s30,.bool n31,.string s31,.bool n32,.string s32,.bool n33,.string s33] := hF.2
 clear hF
 dsimp only
 rw [i1]
 clear i1
 have heq : ∀ w,(binOp .eql 29 (.agg #[.bool i3,.bool n30,.string s30,.bool n31,.string s31,.bool n32,.string s32,.bool n33,.string s33]) (.agg #[.bool i3,.bool n30,.string s30,.bool n31,.string s31,.bool n32,.string s32,.bool n33,.string s33])).run Tryz.prog w = .ok (.bool true) w := fun w => run_eql_pt w _ _ _ _ _ _ _ _ _ _ _ _ _ _ _ _ _ _ true (by simp)
 have HB1 := Lib.hid (HB6.out.trans (((br.drew.trans h1)).mono HB6.out.size))
 clear h1 g6 l6 HB6
 go_wp2_with fail
 go_ret
 exact ⟨rfl,HB1.out⟩
end Go.Proofs.YtepefgkihnjjaaaGreat
