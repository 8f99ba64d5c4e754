/- Laws for the walk. -/
import Derived.Test.YtepefgkihnjjaaaGreatZzz
import Derived.Test.YtepefgkihnjjaaaGreatZbb
import Derived.Test.YtepefgkihnjjaaaGreatZbd
import Derived.Test.YtepefgkihnjjaaaGreatZbe
set_option linter.unusedVariables false
namespace Go.Proofs.YtepefgkihnjjaaaGreat
open Go.RowKit Tr
theorem fcbox (w : World) (a0 a1 a2 a3 a4 a5 a6 a7 a8 a9 a10 a11 a12 a13 a14 a15 a16 a17 a18 a19 a20 a21 a22 a23 a24 a25 a26 a27 a28 a29 a30 a31 a32 a33 a34 a35 a36 a37 a38 a39 a40 a41 a42 a43 a44 a45 a46 a47 a48 a49 a50 a51 a52 a53 a54 a55 a56 a57 a58 a59 : Value) :
  ∃ W,Hid (W = ((w.alloc (.cells #[a0,a1,a2,a3,a4,a5,a6,a7,a8,a9,a10,a11,a12,a13,a14,a15,a16,a17,a18,a19,a20,a21,a22,a23,a24,a25,a26,a27,a28,a29,a30,a31,a32,a33,a34,a35,a36,a37,a38,a39,a40,a41,a42,a43,a44,a45,a46,a47,a48,a49,a50,a51,a52,a53,a54,a55,a56,a57,a58,a59] 31)).alloc (.cells #[.bool false,.bool false,.string ⟨#[]⟩,.bool false,.string ⟨#[]⟩,.bool false,.string ⟨#[]⟩,.bool false,.string ⟨#[]⟩,.bool false,.bool false,.string ⟨#[]⟩,.bool false,.string ⟨#[]⟩,.bool false,.string ⟨#[]⟩,.bool false,.string ⟨#[]⟩,.bool false,.bool false,.string ⟨#[]⟩,.bool false,.string ⟨#[]⟩,.bool false,.string ⟨#[]⟩,.bool false,.string ⟨#[]⟩] 37)).alloc (.cells #[.bool false,.bool false,.string ⟨#[]⟩,.bool false,.string ⟨#[]⟩,.bool false,.string ⟨#[]⟩,.bool false,.string ⟨#[]⟩,.bool false,.bool false,.string ⟨#[]⟩,.bool false,.string ⟨#[]⟩,.bool false,.string ⟨#[]⟩,.bool false,.string ⟨#[]⟩,.bool false,.bool false,.string ⟨#[]⟩,.bool false,.string ⟨#[]⟩,.bool false,.string ⟨#[]⟩,.bool false,.string ⟨#[]⟩] 37) ∧ Below w.heap.size w W ∧ W.heap.size = w.heap.size + 3 ∧ ∀ w1,Below W.heap.size W w1 → (w1.heap[w.heap.size]? = some (.cells #[a0,a1,a2,a3,a4,a5,a6,a7,a8,a9,a10,a11,a12,a13,a14,a15,a16,a17,a18,a19,a20,a21,a22,a23,a24,a25,a26,a27,a28,a29,a30,a31,a32,a33,a34,a35,a36,a37,a38,a39,a40,a41,a42,a43,a44,a45,a46,a47,a48,a49,a50,a51,a52,a53,a54,a55,a56,a57,a58,a59] 31 (0,0))) ∧
   (w1.heap[w.heap.size + 1]? = some (.cells #[.bool false,.bool false,.string ⟨#[]⟩,.bool false,.string ⟨#[]⟩,.bool false,.string ⟨#[]⟩,.bool false,.string ⟨#[]⟩,.bool false,.bool false,.string ⟨#[]⟩,.bool false,.string ⟨#[]⟩,.bool false,.string ⟨#[]⟩,.bool false,.string ⟨#[]⟩,.bool false,.bool false,.string ⟨#[]⟩,.bool false,.string ⟨#[]⟩,.bool false,.string ⟨#[]⟩,.bool false,.string ⟨#[]⟩] 37 (0,0))) ∧
   (w1.heap[w.heap.size + 2]? = some (.cells #[.bool false,.bool false,.string ⟨#[]⟩,.bool false,.string ⟨#[]⟩,.bool false,.string ⟨#[]⟩,.bool false,.string ⟨#[]⟩,.bool false,.bool false,.string ⟨#[]⟩,.bool false,.string ⟨#[]⟩,.bool false,.string ⟨#[]⟩,.bool false,.string ⟨#[]⟩,.bool false,.bool false,.string ⟨#[]⟩,.bool false,.string ⟨#[]⟩,.bool false,.string ⟨#[]⟩,.bool false,.string ⟨#[]⟩] 37 (0,0)))) := by
 obtain ⟨w1,hw1⟩ : ∃ w1,w1 = w.alloc (.cells #[a0,a1,a2,a3,a4,a5,a6,a7,a8,a9,a10,a11,a12,a13,a14,a15,a16,a17,a18,a19,a20,a21,a22,a23,a24,a25,a26,a27,a28,a29,a30,a31,a32,a33,a34,a35,a36,a37,a38,a39,a40,a41,a42,a43,a44,a45,a46,a47,a48,a49,a50,a51,a52,a53,a54,a55,a56,a57,a58,a59] 31) := ⟨_,rfl⟩
 have hz1 : w1.heap.size = w.heap.size + 1 := by rw [hw1]; simp
 have hb1 : Below w.heap.size w w1 := by rw [hw1]; exact br.alloc (Nat.le_refl _) _
 obtain ⟨w2,hw2⟩ : ∃ w2,w2 = w1.alloc (.cells #[.bool false,.bool false,.string ⟨#[]⟩,.bool false,.string ⟨#[]⟩,.bool false,.string ⟨#[]⟩,.bool false,.string ⟨#[]⟩,.bool false,.bool false,.string ⟨#[]⟩,.bool false,.string ⟨#[]⟩,.bool false,.string ⟨#[]⟩,.bool false,.string ⟨#[]⟩,.bool false,.bool false,.string ⟨#[]⟩,.bool false,.string ⟨#[]⟩,.bool false,.string ⟨#[]⟩,.bool false,.string ⟨#[]⟩] 37) := ⟨_,rfl⟩
 have hz2 : w2.heap.size = w.heap.size + 2 := by rw [hw2]; simp [hz1]
 have hb2 : Below w1.heap.size w1 w2 := by rw [hw2]; exact br.alloc (Nat.le_refl _) _
 obtain ⟨w3,hw3⟩ : ∃ w3,w3 = w2.alloc (.cells #[.bool false,.bool false,.string ⟨#[]⟩,.bool false,.string ⟨#[]⟩,.bool false,.string ⟨#[]⟩,.bool false,.string ⟨#[]⟩,.bool false,.bool false,.string ⟨#[]⟩,.bool false,.string ⟨#[]⟩,.bool false,.string ⟨#[]⟩,.bool false,.string ⟨#[]⟩,.bool false,.bool false,.string ⟨#[]⟩,.bool false,.string ⟨#[]⟩,.bool false,.string ⟨#[]⟩,.bool false,.string ⟨#[]⟩] 37) := ⟨_,rfl⟩
 have hz3 : w3.heap.size = w.heap.size + 3 := by rw [hw3]; simp [hz2]
 have hb3 : Below w2.heap.size w2 w3 := by rw [hw3]; exact br.alloc (Nat.le_refl _) _
 have t3 : Below w3.heap.size w3 w3 := Below.refl _ _
 have t2 : Below w2.heap.size w2 w3 := hb3.trans (t3.mono hb3.size)
 have t1 : Below w1.heap.size w1 w3 := hb2.trans (t2.mono hb2.size)
 refine ⟨w3,Lib.hid ⟨by rw [hw3,hw2,hw1],hb1.trans (t1.mono hb1.size),hz3,fun w' h => ?_⟩⟩
 have e0 := (t1.trans (h.mono t1.size)).block w.heap.size (by rw [hw1]; simp)
 rw [hw1,heap_alloc_new] at e0
 have e1 := (t2.trans (h.mono t2.size)).block w1.heap.size (by rw [hw2]; simp)
 rw [hw2,heap_alloc_new] at e1
 rw [hz1] at e1
 have e2 := (t3.trans (h.mono t3.size)).block w2.heap.size (by rw [hw3]; simp)
 rw [hw3,heap_alloc_new] at e2
 rw [hz2] at e2
 exact ⟨e0,e1,e2⟩
def Z27 : Value := .agg #[.bool false,.bool false,.string ⟨#[]⟩,.bool false,.string ⟨#[]⟩,.bool false,.string ⟨#[]⟩,.bool false,.string ⟨#[]⟩,.bool false,.bool false,.string ⟨#[]⟩,.bool false,.string ⟨#[]⟩,.bool false,.string ⟨#[]⟩,.bool false,.string ⟨#[]⟩,.bool false,.bool false,.string ⟨#[]⟩,.bool false,.string ⟨#[]⟩,.bool false,.string ⟨#[]⟩,.bool false,.string ⟨#[]⟩]
def bad1 (p0 p1 p2 p3 : Pt) (a b c : QC) : Prop := lastBad (ptX p1) (ptY p1) (cX p0 p1 p2 a b) (cY p0 p1 p2 a b) (cX p0 p1 p3 a c) (cY p0 p1 p3 a c)
def bad2 (p0 p1 p2 p3 : Pt) (a b c : QC) : Prop := lastBad (ptX p2) (ptY p2) (cX p0 p1 p2 a b) (cY p0 p1 p2 a b) (cX p0 p2 p3 b c) (cY p0 p2 p3 b c)
def bad3 (p0 p1 p2 p3 : Pt) (a b c : QC) : Prop := lastBad (ptX p3) (ptY p3) (cX p0 p1 p3 a c) (cY p0 p1 p3 a c) (cX p0 p2 p3 b c) (cY p0 p2 p3 b c)
def wX (p1 p2 p3 : Pt) (a b c : QC) : QC := vX a b c (ptX p1) (ptY p1) (ptX p2) (ptY p2) (ptX p3) (ptY p3)
def wY (p1 p2 p3 : Pt) (a b c : QC) : QC := vY a b c (ptX p1) (ptY p1) (ptX p2) (ptY p2) (ptX p3) (ptY p3)
open Classical in
noncomputable def facesC (p0 p1 p2 p3 : Pt) (a b c : QC) : Int :=
 if badP p0 p1 p2 ∨ badP p0 p1 p3 ∨ badP p0 p2 p3 ∨ bad1 p0 p1 p2 p3 a b c ∨ bad2 p0 p1 p2 p3 a b c ∨ bad3 p0 p1 p2 p3 a b c then 370 else outPC (wX p1 p2 p3 a b c) (wY p1 p2 p3 a b c)
def aggOf : Value → Array Value
 | .agg cs => cs
 | _ => #[]
open Classical in
noncomputable def facesV (p0 p1 p2 p3 : Pt) (a b c : QC) : Value :=
 if facesC p0 p1 p2 p3 a b c = 0 then .agg (aggOf (outP (wX p1 p2 p3 a b c) (wY p1 p2 p3 a b c)) ++ aggOf (outP (wX p1 p2 p3 a b c) (wY p1 p2 p3 a b c)) ++ aggOf (outP (wX p1 p2 p3 a b c) (wY p1 p2 p3 a b c))) else Z27
theorem faces_370 {p0 p1 p2 p3 : Pt} {a b c : QC} {kc : Int} {vc : Value} (h : kc = facesC p0 p1 p2 p3 a b c ∧ vc = facesV p0 p1 p2 p3 a b c) (hb : badP p0 p1 p2 ∨ badP p0 p1 p3 ∨ badP p0 p2 p3 ∨ bad1 p0 p1 p2 p3 a b c ∨ bad2 p0 p1 p2 p3 a b c ∨ bad3 p0 p1 p2 p3 a b c) : kc = 370 ∧ vc = Z27 := by
 have e : facesC p0 p1 p2 p3 a b c = 370 := by unfold facesC; exact if_pos hb
 refine ⟨h.1.trans e,h.2.trans ?_⟩
 unfold facesV
 rw [e]
 exact if_neg (by decide)
theorem outPC_or (x y : QC) : outPC x y = 0 ∨ outPC x y = 4 := by
 unfold outPC
 split
 ·exact .inl rfl
 ·split
  ·exact .inl rfl
  ·exact .inr rfl
theorem faces_4 {p0 p1 p2 p3 : Pt} {a b c : QC} {kc : Int} {vc : Value} (h : kc = facesC p0 p1 p2 p3 a b c ∧ vc = facesV p0 p1 p2 p3 a b c) (hb : ¬ (badP p0 p1 p2 ∨ badP p0 p1 p3 ∨ badP p0 p2 p3 ∨ bad1 p0 p1 p2 p3 a b c ∨ bad2 p0 p1 p2 p3 a b c ∨ bad3 p0 p1 p2 p3 a b c)) (h4 : outPC (wX p1 p2 p3 a b c) (wY p1 p2 p3 a b c) = 4) : kc = 4 ∧ vc = Z27 := by
 have e : facesC p0 p1 p2 p3 a b c = 4 := by unfold facesC; rw [if_neg hb]; exact h4
 refine ⟨h.1.trans e,h.2.trans ?_⟩
 unfold facesV
 rw [e]
 exact if_neg (by decide)
theorem faces_in {p0 p1 p2 p3 : Pt} {a b c : QC} {kc : Int} {vc : Value} (h : kc = facesC p0 p1 p2 p3 a b c ∧ vc = facesV p0 p1 p2 p3 a b c) (hb : ¬ (badP p0 p1 p2 ∨ badP p0 p1 p3 ∨ badP p0 p2 p3 ∨ bad1 p0 p1 p2 p3 a b c ∨ bad2 p0 p1 p2 p3 a b c ∨ bad3 p0 p1 p2 p3 a b c)) (h0 : outPC (wX p1 p2 p3 a b c) (wY p1 p2 p3 a b c) = 0)
  {oi on1 on2 on3 on4 : Bool} {os1 os2 os3 os4 : ByteArray} (eo : outP (wX p1 p2 p3 a b c) (wY p1 p2 p3 a b c) = .agg #[.bool oi,.bool on1,.string os1,.bool on2,.string os2,.bool on3,.string os3,.bool on4,.string os4]) : kc = 0 ∧ vc = .agg #[.bool oi,.bool on1,.string os1,.bool on2,.string os2,.bool on3,.string os3,.bool on4,.string os4,.bool oi,.bool on1,.string os1,.bool on2,.string os2,.bool on3,.string os3,.bool on4,.string os4,.bool oi,.bool on1,.string os1,.bool on2,.string os2,.bool on3,.string os3,.bool on4,.string os4] := by
 have e : facesC p0 p1 p2 p3 a b c = 0 := by unfold facesC; rw [if_neg hb]; exact h0
 refine ⟨h.1.trans e,h.2.trans ?_⟩
 unfold facesV
 rw [if_pos e,eo]
 simp [aggOf]
theorem face1_out {p0 p1 p2 p3 : Pt} {a b c : QC} (ha : a ≠ ⟨0,0⟩) (hb : b ≠ ⟨0,0⟩) (hc : c ≠ ⟨0,0⟩) (h12 : ¬ badP p0 p1 p2) (h13 : ¬ badP p0 p1 p3) :
  outP (lastX (ptX p1) (ptY p1) (cX p0 p1 p2 a b) (cY p0 p1 p2 a b) (cX p0 p1 p3 a c) (cY p0 p1 p3 a c) b c) (lastY (ptX p1) (ptY p1) (cX p0 p1 p2 a b) (cY p0 p1 p2 a b) (cX p0 p1 p3 a c) (cY p0 p1 p3 a c) b c) = outP (wX p1 p2 p3 a b c) (wY p1 p2 p3 a b c) ∧
  outPC (lastX (ptX p1) (ptY p1) (cX p0 p1 p2 a b) (cY p0 p1 p2 a b) (cX p0 p1 p3 a c) (cY p0 p1 p3 a c) b c) (lastY (ptX p1) (ptY p1) (cX p0 p1 p2 a b) (cY p0 p1 p2 a b) (cX p0 p1 p3 a c) (cY p0 p1 p3 a c) b c) = outPC (wX p1 p2 p3 a b c) (wY p1 p2 p3 a b c) := by
 unfold badP lastBad at h12
 simp only [not_or] at h12
 have d01 := dt_ne h12.1
 unfold cX cY wX wY
 rw [face1X,face1Y]; exact outP_scale (mul0 (mul0 hb hc) (mul0 d01 d01)) _ _
theorem face2_out {p0 p1 p2 p3 : Pt} {a b c : QC} (ha : a ≠ ⟨0,0⟩) (hb : b ≠ ⟨0,0⟩) (hc : c ≠ ⟨0,0⟩) (h12 : ¬ badP p0 p1 p2) (h13 : ¬ badP p0 p1 p3) :
  outP (lastX (ptX p2) (ptY p2) (cX p0 p1 p2 a b) (cY p0 p1 p2 a b) (cX p0 p2 p3 b c) (cY p0 p2 p3 b c) a c) (lastY (ptX p2) (ptY p2) (cX p0 p1 p2 a b) (cY p0 p1 p2 a b) (cX p0 p2 p3 b c) (cY p0 p2 p3 b c) a c) = outP (wX p1 p2 p3 a b c) (wY p1 p2 p3 a b c) ∧
  outPC (lastX (ptX p2) (ptY p2) (cX p0 p1 p2 a b) (cY p0 p1 p2 a b) (cX p0 p2 p3 b c) (cY p0 p2 p3 b c) a c) (lastY (ptX p2) (ptY p2) (cX p0 p1 p2 a b) (cY p0 p1 p2 a b) (cX p0 p2 p3 b c) (cY p0 p2 p3 b c) a c) = outPC (wX p1 p2 p3 a b c) (wY p1 p2 p3 a b c) := by
 unfold badP lastBad at h12
 simp only [not_or] at h12
 have d20 := dt_ne h12.2.2
 unfold cX cY wX wY
 rw [face2X,face2Y]; exact outP_scale (mul0 (mul0 ha hc) (mul0 d20 d20)) _ _
theorem face3_out {p0 p1 p2 p3 : Pt} {a b c : QC} (ha : a ≠ ⟨0,0⟩) (hb : b ≠ ⟨0,0⟩) (hc : c ≠ ⟨0,0⟩) (h12 : ¬ badP p0 p1 p2) (h13 : ¬ badP p0 p1 p3) :
  outP (lastX (ptX p3) (ptY p3) (cX p0 p1 p3 a c) (cY p0 p1 p3 a c) (cX p0 p2 p3 b c) (cY p0 p2 p3 b c) a b) (lastY (ptX p3) (ptY p3) (cX p0 p1 p3 a c) (cY p0 p1 p3 a c) (cX p0 p2 p3 b c) (cY p0 p2 p3 b c) a b) = outP (wX p1 p2 p3 a b c) (wY p1 p2 p3 a b c) ∧
  outPC (lastX (ptX p3) (ptY p3) (cX p0 p1 p3 a c) (cY p0 p1 p3 a c) (cX p0 p2 p3 b c) (cY p0 p2 p3 b c) a b) (lastY (ptX p3) (ptY p3) (cX p0 p1 p3 a c) (cY p0 p1 p3 a c) (cX p0 p2 p3 b c) (cY p0 p2 p3 b c) a b) = outPC (wX p1 p2 p3 a b c) (wY p1 p2 p3 a b c) := by
 unfold badP lastBad at h13
 simp only [not_or] at h13
 have d30 := dt_ne h13.2.2
 unfold cX cY wX wY
 rw [face3X,face3Y]; exact outP_scale (mul0 (mul0 ha hb) (mul0 d30 d30)) _ _
end Go.Proofs.YtepefgkihnjjaaaGreat
namespace Go.Proofs.YtepefgkihnjjaaaGreat
open Go.RowKit Tr
def CubeOk (v0 v1 v2 v3 a b c : Value) : Prop := ((((((((PtOk v0 ∧ PtOk v1) ∧ PtOk v2) ∧ PtOk v3) ∧ (GaussOk a ∧ ¬ a = encG 0 0)) ∧ (GaussOk b ∧ ¬ b = encG 0 0)) ∧ (GaussOk c ∧ ¬ c = encG 0 0)) ∧ ¬ a = b) ∧ ¬ b = c) ∧ ¬ c = a
theorem okB_gauss {n1 n2 n3 n4 : Bool} {s1 s2 s3 s4 : ByteArray} {r : Bool} (hr : r = true ↔ GaussOk (.agg #[.bool n1,.string s1,.bool n2,.string s2,.bool n3,.string s3,.bool n4,.string s4])) : (okB n1 n2 s1 s2 && okB n3 n4 s3 s4) = r := by
 rw [Bool.eq_iff_iff,hr,Bool.and_eq_true,okB_iff,okB_iff]
 exact gaussOk_iff.symm
theorem exB (p : Prop) : ∃ r : Bool,r = true ↔ p := by
 by_cases h : p
 ·exact ⟨true,by simp [h]⟩
 ·exact ⟨false,by simp [h]⟩
set_option maxHeartbeats 1600000 in
theorem cube_any (i0 i1 i2 i3 n00 n01 n02 n03 n10 n11 n12 n13 n20 n21 n22 n23 n30 n31 n32 n33 g00 g01 g02 g03 g10 g11 g12 g13 g20 g21 g22 g23 : Bool) (s00 s01 s02 s03 s10 s11 s12 s13 s20 s21 s22 s23 s30 s31 s32 s33 t00 t01 t02 t03 t10 t11 t12 t13 t20 t21 t22 t23 : ByteArray) (lx00 : s00.size < 274877906944) (lx01 : s01.size < 274877906944) (lx02 : s02.size < 274877906944) (lx03 : s03.size < 274877906944) (lx10 : s10.size < 274877906944) (lx11 : s11.size < 274877906944) (lx12 : s12.size < 274877906944) (lx13 : s13.size < 274877906944) (lx20 : s20.size < 274877906944) (lx21 : s21.size < 274877906944) (lx22 : s22.size < 274877906944) (lx23 : s23.size < 274877906944) (lx30 : s30.size < 274877906944) (lx31 : s31.size < 274877906944) (lx32 : s32.size < 274877906944) (lx33 : s33.size < 274877906944) (ly00 : t00.size < 274877906944) (ly01 : t01.size < 274877906944) (ly02 : t02.size < 274877906944) (ly03 : t03.size < 274877906944) (ly10 : t10.size < 274877906944) (ly11 : t11.size < 274877906944) (ly12 : t12.size < 274877906944) (ly13 : t13.size < 274877906944) (ly20 : t20.size < 274877906944) (ly21 : t21.size < 274877906944) (ly22 : t22.size < 274877906944) (ly23 : t23.size < 274877906944) (w : World) :
  Calls Tryz.prog 37 #[.agg #[.bool i0,.bool n00,.string s00,.bool n01,.string s01,.bool n02,.string s02,.bool n03,.string s03,.bool i1,.bool n10,.string s10,.bool n11,.string s11,.bool n12,.string s12,.bool n13,.string s13,.bool i2,.bool n20,.string s20,.bool n21,.string s21,.bool n22,.string s22,.bool n23,.string s23,.bool i3,.bool n30,.string s30,.bool n31,.string s31,.bool n32,.string s32,.bool n33,.string s33,.bool g00,.string t00,.bool g01,.string t01,.bool g02,.string t02,.bool g03,.string t03,.bool g10,.string t10,.bool g11,.string t11,.bool g12,.string t12,.bool g13,.string t13,.bool g20,.string t20,.bool g21,.string t21,.bool g22,.string t22,.bool g23,.string t23]] w fun e w' => ((CubeOk (.agg #[.bool i0,.bool n00,.string s00,.bool n01,.string s01,.bool n02,.string s02,.bool n03,.string s03]) (.agg #[.bool i1,.bool n10,.string s10,.bool n11,.string s11,.bool n12,.string s12,.bool n13,.string s13]) (.agg #[.bool i2,.bool n20,.string s20,.bool n21,.string s21,.bool n22,.string s22,.bool n23,.string s23]) (.agg #[.bool i3,.bool n30,.string s30,.bool n31,.string s31,.bool n32,.string s32,.bool n33,.string s33]) (.agg #[.bool g00,.string t00,.bool g01,.string t01,.bool g02,.string t02,.bool g03,.string t03]) (.agg #[.bool g10,.string t10,.bool g11,.string t11,.bool g12,.string t12,.bool g13,.string t13]) (.agg #[.bool g20,.string t20,.bool g21,.string t21,.bool g22,.string t22,.bool g23,.string t23]) ∧ e = .returned (.int .i64 0)) ∨ (¬ CubeOk (.agg #[.bool i0,.bool n00,.string s00,.bool n01,.string s01,.bool n02,.string s02,.bool n03,.string s03]) (.agg #[.bool i1,.bool n10,.string s10,.bool n11,.string s11,.bool n12,.string s12,.bool n13,.string s13]) (.agg #[.bool i2,.bool n20,.string s20,.bool n21,.string s21,.bool n22,.string s22,.bool n23,.string s23]) (.agg #[.bool i3,.bool n30,.string s30,.bool n31,.string s31,.bool n32,.string s32,.bool n33,.string s33]) (.agg #[.bool g00,.string t00,.bool g01,.string t01,.bool g02,.string t02,.bool g03,.string t03]) (.agg #[.bool g10,.string t10,.bool g11,.string t11,.bool g12,.string t12,.bool g13,.string t13]) (.agg #[.bool g20,.string t20,.bool g21,.string t21,.bool g22,.string t22,.bool g23,.string t23]) ∧ e = .returned (.int .i64 2))) ∧ Below w.heap.size w w' := by
 obtain ⟨r0,hr0⟩ := exB (PtOk (.agg #[.bool i0,.bool n00,.string s00,.bool n01,.string s01,.bool n02,.string s02,.bool n03,.string s03]))
 obtain ⟨r1,hr1⟩ := exB (PtOk (.agg #[.bool i1,.bool n10,.string s10,.bool n11,.string s11,.bool n12,.string s12,.bool n13,.string s13]))
 obtain ⟨r2,hr2⟩ := exB (PtOk (.agg #[.bool i2,.bool n20,.string s20,.bool n21,.string s21,.bool n22,.string s22,.bool n23,.string s23]))
 obtain ⟨r3,hr3⟩ := exB (PtOk (.agg #[.bool i3,.bool n30,.string s30,.bool n31,.string s31,.bool n32,.string s32,.bool n33,.string s33]))
 obtain ⟨m0,hm0⟩ := exB (GaussOk (.agg #[.bool g00,.string t00,.bool g01,.string t01,.bool g02,.string t02,.bool g03,.string t03]))
 obtain ⟨z0,hz0⟩ := exB (Value.agg #[.bool g00,.string t00,.bool g01,.string t01,.bool g02,.string t02,.bool g03,.string t03] = encG 0 0)
 obtain ⟨q0,hq0⟩ := exB (Value.agg #[.bool g00,.string t00,.bool g01,.string t01,.bool g02,.string t02,.bool g03,.string t03] = .agg #[.bool g10,.string t10,.bool g11,.string t11,.bool g12,.string t12,.bool g13,.string t13])
 obtain ⟨m1,hm1⟩ := exB (GaussOk (.agg #[.bool g10,.string t10,.bool g11,.string t11,.bool g12,.string t12,.bool g13,.string t13]))
 obtain ⟨z1,hz1⟩ := exB (Value.agg #[.bool g10,.string t10,.bool g11,.string t11,.bool g12,.string t12,.bool g13,.string t13] = encG 0 0)
 obtain ⟨q1,hq1⟩ := exB (Value.agg #[.bool g10,.string t10,.bool g11,.string t11,.bool g12,.string t12,.bool g13,.string t13] = .agg #[.bool g20,.string t20,.bool g21,.string t21,.bool g22,.string t22,.bool g23,.string t23])
 obtain ⟨m2,hm2⟩ := exB (GaussOk (.agg #[.bool g20,.string t20,.bool g21,.string t21,.bool g22,.string t22,.bool g23,.string t23]))
 obtain ⟨z2,hz2⟩ := exB (Value.agg #[.bool g20,.string t20,.bool g21,.string t21,.bool g22,.string t22,.bool g23,.string t23] = encG 0 0)
 obtain ⟨q2,hq2⟩ := exB (Value.agg #[.bool g20,.string t20,.bool g21,.string t21,.bool g22,.string t22,.bool g23,.string t23] = .agg #[.bool g00,.string t00,.bool g01,.string t01,.bool g02,.string t02,.bool g03,.string t03])
 refine (cube_raw i0 i1 i2 i3 n00 n01 n02 n03 n10 n11 n12 n13 n20 n21 n22 n23 n30 n31 n32 n33 g00 g01 g02 g03 g10 g11 g12 g13 g20 g21 g22 g23 s00 s01 s02 s03 s10 s11 s12 s13 s20 s21 s22 s23 s30 s31 s32 s33 t00 t01 t02 t03 t10 t11 t12 t13 t20 t21 t22 t23 r0 r1 r2 r3 m0 m1 m2 z0 z1 z2 q0 q1 q2 (fun w => SMay_any i0 n00 n01 n02 n03 s00 s01 s02 s03 lx00 lx01 lx02 lx03 r0 hr0 w) (fun w => SMay_any i1 n10 n11 n12 n13 s10 s11 s12 s13 lx10 lx11 lx12 lx13 r1 hr1 w) (fun w => SMay_any i2 n20 n21 n22 n23 s20 s21 s22 s23 lx20 lx21 lx22 lx23 r2 hr2 w) (fun w => SMay_any i3 n30 n31 n32 n33 s30 s31 s32 s33 lx30 lx31 lx32 lx33 r3 hr3 w) (fun w => (okB_gauss hm0) ▸ GMay_any g00 g01 g02 g03 t00 t01 t02 t03 ly00 ly01 ly02 ly03 w) (fun w => GZero_any g00 g01 g02 g03 t00 t01 t02 t03 z0 hz0 w) (fun w => (okB_gauss hm1) ▸ GMay_any g10 g11 g12 g13 t10 t11 t12 t13 ly10 ly11 ly12 ly13 w) (fun w => GZero_any g10 g11 g12 g13 t10 t11 t12 t13 z1 hz1 w) (fun w => (okB_gauss hm2) ▸ GMay_any g20 g21 g22 g23 t20 t21 t22 t23 ly20 ly21 ly22 ly23 w) (fun w => GZero_any g20 g21 g22 g23 t20 t21 t22 t23 z2 hz2 w) (fun w => run_eql_g w g00 g01 g02 g03 g10 g11 g12 g13 t00 t01 t02 t03 t10 t11 t12 t13 q0 hq0) (fun w => run_eql_g w g10 g11 g12 g13 g20 g21 g22 g23 t10 t11 t12 t13 t20 t21 t22 t23 q1 hq1) (fun w => run_eql_g w g20 g21 g22 g23 g00 g01 g02 g03 t20 t21 t22 t23 t00 t01 t02 t03 q2 hq2) w).mono ?_
 rintro e w' ⟨rfl,hb⟩
 refine ⟨?_,hb⟩
 have key : (r0 && r1 && r2 && r3 && (m0 && !z0) && (m1 && !z1) && (m2 && !z2) && !q0 && !q1 && !q2) = true ↔ CubeOk (.agg #[.bool i0,.bool n00,.string s00,.bool n01,.string s01,.bool n02,.string s02,.bool n03,.string s03]) (.agg #[.bool i1,.bool n10,.string s10,.bool n11,.string s11,.bool n12,.string s12,.bool n13,.string s13]) (.agg #[.bool i2,.bool n20,.string s20,.bool n21,.string s21,.bool n22,.string s22,.bool n23,.string s23]) (.agg #[.bool i3,.bool n30,.string s30,.bool n31,.string s31,.bool n32,.string s32,.bool n33,.string s33]) (.agg #[.bool g00,.string t00,.bool g01,.string t01,.bool g02,.string t02,.bool g03,.string t03]) (.agg #[.bool g10,.string t10,.bool g11,.string t11,.bool g12,.string t12,.bool g13,.string t13]) (.agg #[.bool g20,.string t20,.bool g21,.string t21,.bool g22,.string t22,.bool g23,.string t23]) := by
  unfold CubeOk
  rw [← hr0,← hr1,← hr2,← hr3,← hm0,← hm1,← hm2,← hz0,← hz1,← hz2,← hq0,← hq1,← hq2]
  simp only [Bool.and_eq_true,Bool.not_eq_true',Bool.not_eq_true]
 by_cases hc : CubeOk (.agg #[.bool i0,.bool n00,.string s00,.bool n01,.string s01,.bool n02,.string s02,.bool n03,.string s03]) (.agg #[.bool i1,.bool n10,.string s10,.bool n11,.string s11,.bool n12,.string s12,.bool n13,.string s13]) (.agg #[.bool i2,.bool n20,.string s20,.bool n21,.string s21,.bool n22,.string s22,.bool n23,.string s23]) (.agg #[.bool i3,.bool n30,.string s30,.bool n31,.string s31,.bool n32,.string s32,.bool n33,.string s33]) (.agg #[.bool g00,.string t00,.bool g01,.string t01,.bool g02,.string t02,.bool g03,.string t03]) (.agg #[.bool g10,.string t10,.bool g11,.string t11,.bool g12,.string t12,.bool g13,.string t13]) (.agg #[.bool g20,.string t20,.bool g21,.string t21,.bool g22,.string t22,.bool g23,.string t23])
 ·exact .inl ⟨hc,by rw [if_pos (key.2 hc)]⟩
 ·exact .inr ⟨hc,by rw [if_neg (fun h => hc (key.1 h))]⟩
set_option maxRecDepth 100000 in
set_option maxHeartbeats 6400000 in
theorem faces_bad (n : Int) (i0 i1 i2 i3 n00 n01 n02 n03 n10 n11 n12 n13 n20 n21 n22 n23 n30 n31 n32 n33 g00 g01 g02 g03 g10 g11 g12 g13 g20 g21 g22 g23 : Bool) (s00 s01 s02 s03 s10 s11 s12 s13 s20 s21 s22 s23 s30 s31 s32 s33 t00 t01 t02 t03 t10 t11 t12 t13 t20 t21 t22 t23 : ByteArray) (HC0 : ∀ w,Calls Tryz.prog 37 #[.agg #[.bool i0,.bool n00,.string s00,.bool n01,.string s01,.bool n02,.string s02,.bool n03,.string s03,.bool i1,.bool n10,.string s10,.bool n11,.string s11,.bool n12,.string s12,.bool n13,.string s13,.bool i2,.bool n20,.string s20,.bool n21,.string s21,.bool n22,.string s22,.bool n23,.string s23,.bool i3,.bool n30,.string s30,.bool n31,.string s31,.bool n32,.string s32,.bool n33,.string s33,.bool g00,.string t00,.bool g01,.string t01,.bool g02,.string t02,.bool g03,.string t03,.bool g10,.string t10,.bool g11,.string t11,.bool g12,.string t12,.bool g13,.string t13,.bool g20,.string t20,.bool g21,.string t21,.bool g22,.string t22,.bool g23,.string t23]] w fun e w' => e = .returned (.int .i64 2) ∧ Below w.heap.size w w') (w : World) :
  Calls Tryz.prog 16 #[.agg #[.bool i0,.bool n00,.string s00,.bool n01,.string s01,.bool n02,.string s02,.bool n03,.string s03,.bool i1,.bool n10,.string s10,.bool n11,.string s11,.bool n12,.string s12,.bool n13,.string s13,.bool i2,.bool n20,.string s20,.bool n21,.string s21,.bool n22,.string s22,.bool n23,.string s23,.bool i3,.bool n30,.string s30,.bool n31,.string s31,.bool n32,.string s32,.bool n33,.string s33,.bool g00,.string t00,.bool g01,.string t01,.bool g02,.string t02,.bool g03,.string t03,.bool g10,.string t10,.bool g11,.string t11,.bool g12,.string t12,.bool g13,.string t13,.bool g20,.string t20,.bool g21,.string t21,.bool g22,.string t22,.bool g23,.string t23],.int .i64 n] w fun e w' => e = .returned (.tuple #[Z27,.int .i64 2]) ∧ Below w.heap.size w w' := by
 have HC := Lib.hid HC0
 clear HC0
 obtain ⟨W,HV⟩ := fcbox w (.bool i0) (.bool n00) (.string s00) (.bool n01) (.string s01) (.bool n02) (.string s02) (.bool n03) (.string s03) (.bool i1) (.bool n10) (.string s10) (.bool n11) (.string s11) (.bool n12) (.string s12) (.bool n13) (.string s13) (.bool i2) (.bool n20) (.string s20) (.bool n21) (.string s21) (.bool n22) (.string s22) (.bool n23) (.string s23) (.bool i3) (.bool n30) (.string s30) (.bool n31) (.string s31) (.bool n32) (.string s32) (.bool n33) (.string s33) (.bool g00) (.string t00) (.bool g01) (.string t01) (.bool g02) (.string t02) (.bool g03) (.string t03) (.bool g10) (.string t10) (.bool g11) (.string t11) (.bool g12) (.string t12) (.bool g13) (.string t13) (.bool g20) (.string t20) (.bool g21) (.string t21) (.bool g22) (.string t22) (.bool g23) (.string t23)
 have hgc := (HV.out.2.2.2 W br).1
 rw [HV.out.1] at hgc
 go_enter Tryz.func16,Tryz.ntmps16
 go_wp2_with (first
  | (refine Go.Great.wpList_boxTo rfl 31 _ rfl (some 2) rfl w.heap.size rfl _ rfl ?_)
  | (refine wpList_load_row rfl 31 _ rfl (w.heap.size) rfl 31 _ (0,0) _ hgc Tryz.underlying31 rfl (by kernel_rfl) ?_))
 try simp only [Nat.add_assoc,Nat.reduceAdd]
 rw [← HV.out.1]
 clear hgc
 refine (HC.out _).mono ?_
 rintro e w1 ⟨rfl,hb⟩
 generalize Value.agg #[.bool i0,.bool n00,.string s00,.bool n01,.string s01,.bool n02,.string s02,.bool n03,.string s03,.bool i1,.bool n10,.string s10,.bool n11,.string s11,.bool n12,.string s12,.bool n13,.string s13,.bool i2,.bool n20,.string s20,.bool n21,.string s21,.bool n22,.string s22,.bool n23,.string s23,.bool i3,.bool n30,.string s30,.bool n31,.string s31,.bool n32,.string s32,.bool n33,.string s33,.bool g00,.string t00,.bool g01,.string t01,.bool g02,.string t02,.bool g03,.string t03,.bool g10,.string t10,.bool g11,.string t11,.bool g12,.string t12,.bool g13,.string t13,.bool g20,.string t20,.bool g21,.string t21,.bool g22,.string t22,.bool g23,.string t23] = big0
 have hgO := (HV.out.2.2.2 w1 hb).2.2
 have hrO := (HV.out.2.2.2 w1 hb).2.1
 have HB := Lib.hid (HV.out.2.1.trans (hb.mono HV.out.2.1.size))
 clear hb HC
 go_wp2_with (first
  | (refine wpList_load_row rfl 37 _ rfl (w.heap.size + 2) rfl 37 _ (0,0) _ hgO Tryz.underlying37 rfl (by kernel_rfl) ?_)
  | (refine wpList_store_row rfl 37 _ _ rfl (w.heap.size + 1) #[.bool false,.bool false,.string ⟨#[]⟩,.bool false,.string ⟨#[]⟩,.bool false,.string ⟨#[]⟩,.bool false,.string ⟨#[]⟩,.bool false,.bool false,.string ⟨#[]⟩,.bool false,.string ⟨#[]⟩,.bool false,.string ⟨#[]⟩,.bool false,.string ⟨#[]⟩,.bool false,.bool false,.string ⟨#[]⟩,.bool false,.string ⟨#[]⟩,.bool false,.string ⟨#[]⟩,.bool false,.string ⟨#[]⟩] rfl rfl 37 _ hrO (by kernel_rfl) (by kernel_rfl) (by kernel_rfl) ?_))
 have hres := setRow_heap w1 (w.heap.size + 1) _ #[.bool false,.bool false,.string ⟨#[]⟩,.bool false,.string ⟨#[]⟩,.bool false,.string ⟨#[]⟩,.bool false,.string ⟨#[]⟩,.bool false,.bool false,.string ⟨#[]⟩,.bool false,.string ⟨#[]⟩,.bool false,.string ⟨#[]⟩,.bool false,.string ⟨#[]⟩,.bool false,.bool false,.string ⟨#[]⟩,.bool false,.string ⟨#[]⟩,.bool false,.string ⟨#[]⟩,.bool false,.string ⟨#[]⟩] _ _ hrO
 refine bodyPost_ret (v := .tuple #[.agg #[.bool false,.bool false,.string ⟨#[]⟩,.bool false,.string ⟨#[]⟩,.bool false,.string ⟨#[]⟩,.bool false,.string ⟨#[]⟩,.bool false,.bool false,.string ⟨#[]⟩,.bool false,.string ⟨#[]⟩,.bool false,.string ⟨#[]⟩,.bool false,.string ⟨#[]⟩,.bool false,.bool false,.string ⟨#[]⟩,.bool false,.string ⟨#[]⟩,.bool false,.string ⟨#[]⟩,.bool false,.string ⟨#[]⟩],.int .i64 2]) (results_cell_tmp Tryz.results16 _ _ (w.heap.size + 1) 37 _ (0,0) _ _ (by rfl) (by rfl) hres Tryz.underlying37 rfl (by kernel_rfl)) rfl ⟨rfl,below_setRow HB.out (by omega) _⟩
theorem fsbox (w : World) (a0 a1 a2 a3 a4 a5 a6 a7 a8 a9 a10 a11 a12 a13 a14 a15 a16 a17 a18 a19 a20 a21 a22 a23 a24 a25 a26 a27 a28 a29 a30 a31 a32 a33 a34 a35 a36 a37 a38 a39 a40 a41 a42 a43 a44 a45 a46 a47 a48 a49 a50 a51 a52 a53 a54 a55 a56 a57 a58 a59 : Value) :
  ∃ W,Hid (W = (w.alloc (.cells #[a0,a1,a2,a3,a4,a5,a6,a7,a8,a9,a10,a11,a12,a13,a14,a15,a16,a17,a18,a19,a20,a21,a22,a23,a24,a25,a26,a27,a28,a29,a30,a31,a32,a33,a34,a35,a36,a37,a38,a39,a40,a41,a42,a43,a44,a45,a46,a47,a48,a49,a50,a51,a52,a53,a54,a55,a56,a57,a58,a59] 31)).alloc (.cells #[.bool false,.bool false,.string ⟨#[]⟩,.bool false,.string ⟨#[]⟩,.bool false,.string ⟨#[]⟩,.bool false,.string ⟨#[]⟩,.bool false,.bool false,.string ⟨#[]⟩,.bool false,.string ⟨#[]⟩,.bool false,.string ⟨#[]⟩,.bool false,.string ⟨#[]⟩,.bool false,.bool false,.string ⟨#[]⟩,.bool false,.string ⟨#[]⟩,.bool false,.string ⟨#[]⟩,.bool false,.string ⟨#[]⟩] 37) ∧ Below w.heap.size w W ∧ W.heap.size = w.heap.size + 2 ∧ ∀ w1,Below W.heap.size W w1 → (w1.heap[w.heap.size]? = some (.cells #[a0,a1,a2,a3,a4,a5,a6,a7,a8,a9,a10,a11,a12,a13,a14,a15,a16,a17,a18,a19,a20,a21,a22,a23,a24,a25,a26,a27,a28,a29,a30,a31,a32,a33,a34,a35,a36,a37,a38,a39,a40,a41,a42,a43,a44,a45,a46,a47,a48,a49,a50,a51,a52,a53,a54,a55,a56,a57,a58,a59] 31 (0,0))) ∧
   (w1.heap[w.heap.size + 1]? = some (.cells #[.bool false,.bool false,.string ⟨#[]⟩,.bool false,.string ⟨#[]⟩,.bool false,.string ⟨#[]⟩,.bool false,.string ⟨#[]⟩,.bool false,.bool false,.string ⟨#[]⟩,.bool false,.string ⟨#[]⟩,.bool false,.string ⟨#[]⟩,.bool false,.string ⟨#[]⟩,.bool false,.bool false,.string ⟨#[]⟩,.bool false,.string ⟨#[]⟩,.bool false,.string ⟨#[]⟩,.bool false,.string ⟨#[]⟩] 37 (0,0)))) := by
 obtain ⟨w1,hw1⟩ : ∃ w1,w1 = w.alloc (.cells #[a0,a1,a2,a3,a4,a5,a6,a7,a8,a9,a10,a11,a12,a13,a14,a15,a16,a17,a18,a19,a20,a21,a22,a23,a24,a25,a26,a27,a28,a29,a30,a31,a32,a33,a34,a35,a36,a37,a38,a39,a40,a41,a42,a43,a44,a45,a46,a47,a48,a49,a50,a51,a52,a53,a54,a55,a56,a57,a58,a59] 31) := ⟨_,rfl⟩
 have hz1 : w1.heap.size = w.heap.size + 1 := by rw [hw1]; simp
 have hb1 : Below w.heap.size w w1 := by rw [hw1]; exact br.alloc (Nat.le_refl _) _
 obtain ⟨w2,hw2⟩ : ∃ w2,w2 = w1.alloc (.cells #[.bool false,.bool false,.string ⟨#[]⟩,.bool false,.string ⟨#[]⟩,.bool false,.string ⟨#[]⟩,.bool false,.string ⟨#[]⟩,.bool false,.bool false,.string ⟨#[]⟩,.bool false,.string ⟨#[]⟩,.bool false,.string ⟨#[]⟩,.bool false,.string ⟨#[]⟩,.bool false,.bool false,.string ⟨#[]⟩,.bool false,.string ⟨#[]⟩,.bool false,.string ⟨#[]⟩,.bool false,.string ⟨#[]⟩] 37) := ⟨_,rfl⟩
 have hz2 : w2.heap.size = w.heap.size + 2 := by rw [hw2]; simp [hz1]
 have hb2 : Below w1.heap.size w1 w2 := by rw [hw2]; exact br.alloc (Nat.le_refl _) _
 have t2 : Below w2.heap.size w2 w2 := Below.refl _ _
 have t1 : Below w1.heap.size w1 w2 := hb2.trans (t2.mono hb2.size)
 refine ⟨w2,Lib.hid ⟨by rw [hw2,hw1],hb1.trans (t1.mono hb1.size),hz2,fun w' h => ?_⟩⟩
 have e0 := (t1.trans (h.mono t1.size)).block w.heap.size (by rw [hw1]; simp)
 rw [hw1,heap_alloc_new] at e0
 have e1 := (t2.trans (h.mono t2.size)).block w1.heap.size (by rw [hw2]; simp)
 rw [hw2,heap_alloc_new] at e1
 rw [hz1] at e1
 exact ⟨e0,e1⟩
set_option maxRecDepth 100000 in
set_option maxHeartbeats 6400000 in
theorem Faces_raw (i0 i1 i2 i3 n00 n01 n02 n03 n10 n11 n12 n13 n20 n21 n22 n23 n30 n31 n32 n33 g00 g01 g02 g03 g10 g11 g12 g13 g20 g21 g22 g23 : Bool) (s00 s01 s02 s03 s10 s11 s12 s13 s20 s21 s22 s23 s30 s31 s32 s33 t00 t01 t02 t03 t10 t11 t12 t13 t20 t21 t22 t23 : ByteArray) (j0 j1 j2 m00 m01 m02 m03 m10 m11 m12 m13 m20 m21 m22 m23 : Bool) (q00 q01 q02 q03 q10 q11 q12 q13 q20 q21 q22 q23 : ByteArray) (k : Int) (HF : ∀ w,Calls Tryz.prog 16 #[.agg #[.bool i0,.bool n00,.string s00,.bool n01,.string s01,.bool n02,.string s02,.bool n03,.string s03,.bool i1,.bool n10,.string s10,.bool n11,.string s11,.bool n12,.string s12,.bool n13,.string s13,.bool i2,.bool n20,.string s20,.bool n21,.string s21,.bool n22,.string s22,.bool n23,.string s23,.bool i3,.bool n30,.string s30,.bool n31,.string s31,.bool n32,.string s32,.bool n33,.string s33,.bool g00,.string t00,.bool g01,.string t01,.bool g02,.string t02,.bool g03,.string t03,.bool g10,.string t10,.bool g11,.string t11,.bool g12,.string t12,.bool g13,.string t13,.bool g20,.string t20,.bool g21,.string t21,.bool g22,.string t22,.bool g23,.string t23],.int .i64 3] w fun e w' => e = .returned (.tuple #[.agg #[.bool j0,.bool m00,.string q00,.bool m01,.string q01,.bool m02,.string q02,.bool m03,.string q03,.bool j1,.bool m10,.string q10,.bool m11,.string q11,.bool m12,.string q12,.bool m13,.string q13,.bool j2,.bool m20,.string q20,.bool m21,.string q21,.bool m22,.string q22,.bool m23,.string q23],.int .i64 k]) ∧ Below w.heap.size w w') (w : World) :
  Calls Tryz.prog 8 #[.agg #[.bool i0,.bool n00,.string s00,.bool n01,.string s01,.bool n02,.string s02,.bool n03,.string s03,.bool i1,.bool n10,.string s10,.bool n11,.string s11,.bool n12,.string s12,.bool n13,.string s13,.bool i2,.bool n20,.string s20,.bool n21,.string s21,.bool n22,.string s22,.bool n23,.string s23,.bool i3,.bool n30,.string s30,.bool n31,.string s31,.bool n32,.string s32,.bool n33,.string s33,.bool g00,.string t00,.bool g01,.string t01,.bool g02,.string t02,.bool g03,.string t03,.bool g10,.string t10,.bool g11,.string t11,.bool g12,.string t12,.bool g13,.string t13,.bool g20,.string t20,.bool g21,.string t21,.bool g22,.string t22,.bool g23,.string t23]] w fun e w' => e = .returned (.tuple #[.agg #[.bool j0,.bool m00,.string q00,.bool m01,.string q01,.bool m02,.string q02,.bool m03,.string q03,.bool j1,.bool m10,.string q10,.bool m11,.string q11,.bool m12,.string q12,.bool m13,.string q13,.bool j2,.bool m20,.string q20,.bool m21,.string q21,.bool m22,.string q22,.bool m23,.string q23],.int .i64 k]) ∧ Below w.heap.size w w' := by
 have HC := Lib.hid HF
 clear HF
 obtain ⟨W,HV⟩ := fsbox w (.bool i0) (.bool n00) (.string s00) (.bool n01) (.string s01) (.bool n02) (.string s02) (.bool n03) (.string s03) (.bool i1) (.bool n10) (.string s10) (.bool n11) (.string s11) (.bool n12) (.string s12) (.bool n13) (.string s13) (.bool i2) (.bool n20) (.string s20) (.bool n21) (.string s21) (.bool n22) (.string s22) (.bool n23) (.string s23) (.bool i3) (.bool n30) (.string s30) (.bool n31) (.string s31) (.bool n32) (.string s32) (.bool n33) (.string s33) (.bool g00) (.string t00) (.bool g01) (.string t01) (.bool g02) (.string t02) (.bool g03) (.string t03) (.bool g10) (.string t10) (.bool g11) (.string t11) (.bool g12) (.string t12) (.bool g13) (.string t13) (.bool g20) (.string t20) (.bool g21) (.string t21) (.bool g22) (.string t22) (.bool g23) (.string t23)
 have hgc := (HV.out.2.2.2 W br).1
 rw [HV.out.1] at hgc
 go_enter Tryz.func8,Tryz.ntmps8
 go_wp2_with (first
  | (refine Go.Great.wpList_boxTo rfl 31 _ rfl (some 1) rfl w.heap.size rfl _ rfl ?_)
  | (refine wpList_load_row rfl 31 _ rfl (w.heap.size) rfl 31 _ (0,0) _ hgc Tryz.underlying31 rfl (by kernel_rfl) ?_))
 rw [← HV.out.1]
 clear hgc
 refine (HC.out _).mono ?_
 rintro e w1 ⟨rfl,hb⟩
 generalize Value.agg #[.bool i0,.bool n00,.string s00,.bool n01,.string s01,.bool n02,.string s02,.bool n03,.string s03,.bool i1,.bool n10,.string s10,.bool n11,.string s11,.bool n12,.string s12,.bool n13,.string s13,.bool i2,.bool n20,.string s20,.bool n21,.string s21,.bool n22,.string s22,.bool n23,.string s23,.bool i3,.bool n30,.string s30,.bool n31,.string s31,.bool n32,.string s32,.bool n33,.string s33,.bool g00,.string t00,.bool g01,.string t01,.bool g02,.string t02,.bool g03,.string t03,.bool g10,.string t10,.bool g11,.string t11,.bool g12,.string t12,.bool g13,.string t13,.bool g20,.string t20,.bool g21,.string t21,.bool g22,.string t22,.bool g23,.string t23] = big0
 have hrO := (HV.out.2.2.2 w1 hb).2
 have HB := Lib.hid (HV.out.2.1.trans (hb.mono HV.out.2.1.size))
 clear hb HC
 go_wp2_with (refine wpList_store_row rfl 37 _ _ rfl (w.heap.size + 1) #[.bool j0,.bool m00,.string q00,.bool m01,.string q01,.bool m02,.string q02,.bool m03,.string q03,.bool j1,.bool m10,.string q10,.bool m11,.string q11,.bool m12,.string q12,.bool m13,.string q13,.bool j2,.bool m20,.string q20,.bool m21,.string q21,.bool m22,.string q22,.bool m23,.string q23] rfl rfl 37 _ hrO (by kernel_rfl) (by kernel_rfl) (by kernel_rfl) ?_)
 have hres := setRow_heap w1 (w.heap.size + 1) _ #[.bool j0,.bool m00,.string q00,.bool m01,.string q01,.bool m02,.string q02,.bool m03,.string q03,.bool j1,.bool m10,.string q10,.bool m11,.string q11,.bool m12,.string q12,.bool m13,.string q13,.bool j2,.bool m20,.string q20,.bool m21,.string q21,.bool m22,.string q22,.bool m23,.string q23] _ _ hrO
 refine bodyPost_ret (v := .tuple #[.agg #[.bool j0,.bool m00,.string q00,.bool m01,.string q01,.bool m02,.string q02,.bool m03,.string q03,.bool j1,.bool m10,.string q10,.bool m11,.string q11,.bool m12,.string q12,.bool m13,.string q13,.bool j2,.bool m20,.string q20,.bool m21,.string q21,.bool m22,.string q22,.bool m23,.string q23],.int .i64 k]) (results_cell_tmp Tryz.results8 _ _ (w.heap.size + 1) 37 _ (0,0) _ _ (by rfl) (by rfl) hres Tryz.underlying37 rfl (by kernel_rfl)) rfl ⟨rfl,below_setRow HB.out (by omega) _⟩
end Go.Proofs.YtepefgkihnjjaaaGreat
