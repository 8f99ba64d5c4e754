/- Laws for the walk. -/
import Derived.Test.YtepefgkihnjjaaaGreatZzz
import Derived.Test.YtepefgkihnjjaaaGreatZaq
import Derived.Test.YtepefgkihnjjaaaGreatZav
import Derived.Great.Ranges
import Derived.Laws.CopyOwn
set_option linter.unusedVariables false
namespace Go.Proofs.YtepefgkihnjjaaaGreat
open Go.RowKit Tr
theorem SMay_any (i n1 n2 n3 n4 : Bool) (s1 s2 s3 s4 : ByteArray) (l1 : s1.size < 274877906944) (l2 : s2.size < 274877906944) (l3 : s3.size < 274877906944) (l4 : s4.size < 274877906944) (r : Bool) (hr : r = true ↔ PtOk (.agg #[.bool i,.bool n1,.string s1,.bool n2,.string s2,.bool n3,.string s3,.bool n4,.string s4])) (w : World) :
  Calls Tryz.prog 21 #[.agg #[.bool i,.bool n1,.string s1,.bool n2,.string s2,.bool n3,.string s3,.bool n4,.string s4]] w fun e w' => e = .returned (.bool r) ∧ Below w.heap.size w w' := by
 cases i
 ·have := SMay_num n1 n2 n3 n4 s1 s2 s3 s4 l1 l2 l3 l4 w
  have e : (okB n1 n2 s1 s2 && okB n3 n4 s3 s4) = r := by
   rw [Bool.eq_iff_iff,Bool.and_eq_true,okB_iff,okB_iff,hr,ptOk_num,gaussOk_iff]
  rw [e] at this
  exact this
 ·exact SMay_inf n1 n2 n3 n4 s1 s2 s3 s4 r (hr.trans ptOk_inf) w
theorem short_size {z : QC} (h : ShortZ z) : (strN z.re.num.natAbs).size < 274877906944 ∧ (strN z.re.den).size < 274877906944 ∧ (strN z.im.num.natAbs).size < 274877906944 ∧ (strN z.im.den).size < 274877906944 := by
 obtain ⟨⟨h1,h2⟩,h3,h4⟩ := h
 omega
theorem encF_inj {a b : Rat} (h1 : decide (a.num < 0) = decide (b.num < 0)) (h2 : strN a.num.natAbs = strN b.num.natAbs) (h3 : strN a.den = strN b.den) : a = b := by
 have e1 : a.num = b.num := by
  rw [← sgn_self a.num,← sgn_self b.num,h1,strN_inj h2]
 exact Rat.ext e1 (strN_inj h3)
theorem encP_inj {p q : Pt} (h : encP p = encP q) : p = q := by
 cases p with
 | none => cases q with
  | none => rfl
  | some z => unfold encP infP encPt at h; simp at h
 | some y => cases q with
  | none => unfold encP infP encPt at h; simp at h
  | some z =>
   unfold encP encPt at h
   simp only [Value.agg.injEq,Array.mk.injEq,List.cons.injEq,Value.bool.injEq,Value.string.injEq,and_true,true_and] at h
   obtain ⟨h1,h2,h3,h4,h5,h6⟩ := h
   have e1 := encF_inj h1 h2 h3
   have e2 := encF_inj h4 h5 h6
   obtain ⟨yr,yi⟩ := y
   obtain ⟨zr,zi⟩ := z
   simp only at e1 e2
   rw [e1,e2]
theorem spot_parts (p : Pt) (h : ShortP p) : ∃ i n1 s1 n2 s2 n3 s3 n4 s4,encP p = .agg #[.bool i,.bool n1,.string s1,.bool n2,.string s2,.bool n3,.string s3,.bool n4,.string s4] ∧
  (∀ (A : Nat → Prop) (w : World),Rcv A w → Calls Tryz.prog 97 #[.agg #[.bool i,.bool n1,.string s1,.bool n2,.string s2,.bool n3,.string s3,.bool n4,.string s4]] w fun e w' => ∃ u,e = .returned (.tuple #[u,.bool true]) ∧ Below w.heap.size w w' ∧ PlF p u w' A) ∧
  ∀ w : World,Calls Tryz.prog 21 #[.agg #[.bool i,.bool n1,.string s1,.bool n2,.string s2,.bool n3,.string s3,.bool n4,.string s4]] w fun e w' => e = .returned (.bool true) ∧ Below w.heap.size w w' := by
 have key : ∀ (i n1 n2 n3 n4 : Bool) (s1 s2 s3 s4 : ByteArray),s1.size < 274877906944 → s2.size < 274877906944 → s3.size < 274877906944 → s4.size < 274877906944 → encP p = .agg #[.bool i,.bool n1,.string s1,.bool n2,.string s2,.bool n3,.string s3,.bool n4,.string s4] → ∃ i n1 s1 n2 s2 n3 s3 n4 s4,encP p = .agg #[.bool i,.bool n1,.string s1,.bool n2,.string s2,.bool n3,.string s3,.bool n4,.string s4] ∧
   (∀ (A : Nat → Prop) (w : World),Rcv A w → Calls Tryz.prog 97 #[.agg #[.bool i,.bool n1,.string s1,.bool n2,.string s2,.bool n3,.string s3,.bool n4,.string s4]] w fun e w' => ∃ u,e = .returned (.tuple #[u,.bool true]) ∧ Below w.heap.size w w' ∧ PlF p u w' A) ∧
   ∀ w : World,Calls Tryz.prog 21 #[.agg #[.bool i,.bool n1,.string s1,.bool n2,.string s2,.bool n3,.string s3,.bool n4,.string s4]] w fun e w' => e = .returned (.bool true) ∧ Below w.heap.size w w' := by
  intro i n1 n2 n3 n4 s1 s2 s3 s4 l1 l2 l3 l4 e
  have hok : PtOk (.agg #[.bool i,.bool n1,.string s1,.bool n2,.string s2,.bool n3,.string s3,.bool n4,.string s4]) := ⟨p,e.symm,h⟩
  refine ⟨i,n1,s1,n2,s2,n3,s3,n4,s4,e,fun A w hA => ?_,fun w => ?_⟩
  ·refine (Spot_any i n1 n2 n3 n4 s1 s2 s3 s4 l1 l2 l3 l4 A w hA true (by simp [hok])).mono ?_
   rintro _ w' ⟨u,rfl,hb,q,hq,hv⟩
   have : q = p := encP_inj (by rw [← hv hok,e])
   subst this
   exact ⟨u,rfl,hb,hq⟩
  ·exact SMay_any i n1 n2 n3 n4 s1 s2 s3 s4 l1 l2 l3 l4 true (by simp [hok]) w
 cases p with
 | none => exact key true false false false false ⟨#[]⟩ ⟨#[]⟩ ⟨#[]⟩ ⟨#[]⟩ (by decide) (by decide) (by decide) (by decide) rfl
 | some z =>
  obtain ⟨h1,h2,h3,h4⟩ := short_size h
  exact key false _ _ _ _ _ _ _ _ h1 h2 h3 h4 rfl
theorem noW_12 (b0 b1 b2 b3 : Bool) (p0 p1 p2 p3 q0 q1 q2 q3 : Option Addr) (T : TypeId) : NoW (.cells #[.bool b0,.pointer p0,.pointer q0,.bool b1,.pointer p1,.pointer q1,.bool b2,.pointer p2,.pointer q2,.bool b3,.pointer p3,.pointer q3] T (0,0)) := by
 intro cs T fr e i k x
 cases e
 rcases i with _ | _ | _ | _ | _ | _ | _ | _ | _ | _ | _ | _ | i <;> simp
def encP4 (p0 p1 p2 p3 : Pt) : Value := match encP p0,encP p1,encP p2,encP p3 with
 | .agg a,.agg b,.agg c,.agg d => .agg (a ++ b ++ c ++ d)
 | _,_,_,_ => undef
theorem encP4_of {p0 p1 p2 p3 : Pt} {a b c d : Array Value} (h0 : encP p0 = .agg a) (h1 : encP p1 = .agg b) (h2 : encP p2 = .agg c) (h3 : encP p3 = .agg d) : encP4 p0 p1 p2 p3 = .agg (a ++ b ++ c ++ d) := by
 unfold encP4; rw [h0,h1,h2,h3]
set_option maxRecDepth 100000 in
set_option maxHeartbeats 3200000 in
theorem opbox (w : World) (a0 a1 a2 a3 a4 a5 a6 a7 a8 a9 a10 a11 a12 a13 a14 a15 a16 a17 a18 a19 a20 a21 a22 a23 a24 a25 a26 a27 a28 a29 a30 a31 a32 a33 a34 a35 : Value) :
  ∃ W,Hid (W = ((w.alloc (.cells #[a0,a1,a2,a3,a4,a5,a6,a7,a8,a9,a10,a11,a12,a13,a14,a15,a16,a17,a18,a19,a20,a21,a22,a23,a24,a25,a26,a27,a28,a29,a30,a31,a32,a33,a34,a35] 73)).alloc (.cells #[.bool false,.pointer none,.pointer none,.bool false,.pointer none,.pointer none,.bool false,.pointer none,.pointer none,.bool false,.pointer none,.pointer none] 70)).alloc (.cells #[.bool false,.pointer none,.pointer none,.bool false,.pointer none,.pointer none,.bool false,.pointer none,.pointer none,.bool false,.pointer none,.pointer none] 70) ∧ Below w.heap.size w W ∧ W.heap.size = w.heap.size + 3 ∧ ∀ w1,Below W.heap.size W w1 → (w1.heap[w.heap.size]? = some (.cells #[a0,a1,a2,a3,a4,a5,a6,a7,a8,a9,a10,a11,a12,a13,a14,a15,a16,a17,a18,a19,a20,a21,a22,a23,a24,a25,a26,a27,a28,a29,a30,a31,a32,a33,a34,a35] 73 (0,0))) ∧
   (w1.heap[w.heap.size + 1]? = some (.cells #[.bool false,.pointer none,.pointer none,.bool false,.pointer none,.pointer none,.bool false,.pointer none,.pointer none,.bool false,.pointer none,.pointer none] 70 (0,0))) ∧
   (w1.heap[w.heap.size + 2]? = some (.cells #[.bool false,.pointer none,.pointer none,.bool false,.pointer none,.pointer none,.bool false,.pointer none,.pointer none,.bool false,.pointer none,.pointer none] 70 (0,0)))) := by
 obtain ⟨w1,hw1⟩ : ∃ w1,w1 = w.alloc (.cells #[a0,a1,a2,a3,a4,a5,a6,a7,a8,a9,a10,a11,a12,a13,a14,a15,a16,a17,a18,a19,a20,a21,a22,a23,a24,a25,a26,a27,a28,a29,a30,a31,a32,a33,a34,a35] 73) := ⟨_,rfl⟩
 have hz1 : w1.heap.size = w.heap.size + 1 := by rw [hw1]; simp
 have hb1 : Below w.heap.size w w1 := by rw [hw1]; exact br.alloc (Nat.le_refl _) _
 obtain ⟨w2,hw2⟩ : ∃ w2,w2 = w1.alloc (.cells #[.bool false,.pointer none,.pointer none,.bool false,.pointer none,.pointer none,.bool false,.pointer none,.pointer none,.bool false,.pointer none,.pointer none] 70) := ⟨_,rfl⟩
 have hz2 : w2.heap.size = w.heap.size + 2 := by rw [hw2]; simp [hz1]
 have hb2 : Below w1.heap.size w1 w2 := by rw [hw2]; exact br.alloc (Nat.le_refl _) _
 obtain ⟨w3,hw3⟩ : ∃ w3,w3 = w2.alloc (.cells #[.bool false,.pointer none,.pointer none,.bool false,.pointer none,.pointer none,.bool false,.pointer none,.pointer none,.bool false,.pointer none,.pointer none] 70) := ⟨_,rfl⟩
 have hz3 : w3.heap.size = w.heap.size + 3 := by rw [hw3]; simp [hz2]
 have hb3 : Below w2.heap.size w2 w3 := by rw [hw3]; exact br.alloc (Nat.le_refl _) _
 have t3 : Below w3.heap.size w3 w3 := Below.refl _ _
 have t2 : Below w2.heap.size w2 w3 := hb3.trans (t3.mono hb3.size)
 have t1 : Below w1.heap.size w1 w3 := hb2.trans (t2.mono hb2.size)
 refine ⟨w3,Lib.hid ⟨by rw [hw3,hw2,hw1],hb1.trans (t1.mono hb1.size),hz3,fun w' h => ?_⟩⟩
 have e0 := (t1.trans (h.mono t1.size)).block w.heap.size (by rw [hw1]; simp)
 rw [hw1,heap_alloc_new] at e0
 have e1 := (t2.trans (h.mono t2.size)).block w1.heap.size (by rw [hw2]; simp)
 rw [hw2,heap_alloc_new] at e1
 rw [hz1] at e1
 have e2 := (t3.trans (h.mono t3.size)).block w2.heap.size (by rw [hw3]; simp)
 rw [hw3,heap_alloc_new] at e2
 rw [hz2] at e2
 exact ⟨e0,e1,e2⟩
theorem new_three (w : World) (x y z : Value) (T : TypeId) {w1 : World} (h : Below (w.alloc (.cells #[x,y,z] T)).heap.size (w.alloc (.cells #[x,y,z] T)) w1) : w1.cell? ⟨w.heap.size,0,none⟩ = some x ∧ w1.cell? ⟨w.heap.size,1,none⟩ = some y ∧ w1.cell? ⟨w.heap.size,2,none⟩ = some z := by
 have e := (h.block w.heap.size (by simp)).trans (heap_alloc_new w _)
 simp [World.cell?,e]
set_option maxRecDepth 100000 in
set_option maxHeartbeats 12800000 in
theorem open_ok (p0 p1 p2 p3 : Pt) (h0 : ShortP p0) (h1 : ShortP p1) (h2 : ShortP p2) (h3 : ShortP p3) (v : Value) (hv : v = encP4 p0 p1 p2 p3) (A : Nat → Prop) (w : World) (hA : Rcv A w) :
  Calls Tryz.prog 58 #[v] w fun e w' => ∃ u,e = .returned (.tuple #[u,.int .i64 0]) ∧ Below w.heap.size w w' ∧ FoF p0 p1 p2 p3 u w' A := by
 obtain ⟨i0,n00,s00,n01,s01,n02,s02,n03,s03,e0,S0,M0⟩ := spot_parts p0 h0
 obtain ⟨i1,n10,s10,n11,s11,n12,s12,n13,s13,e1,S1,M1⟩ := spot_parts p1 h1
 obtain ⟨i2,n20,s20,n21,s21,n22,s22,n23,s23,e2,S2,M2⟩ := spot_parts p2 h2
 obtain ⟨i3,n30,s30,n31,s31,n32,s32,n33,s33,e3,S3,M3⟩ := spot_parts p3 h3
 rw [encP4_of e0 e1 e2 e3] at hv
 rw [show (#[.bool i0,.bool n00,.string s00,.bool n01,.string s01,.bool n02,.string s02,.bool n03,.string s03] ++ #[.bool i1,.bool n10,.string s10,.bool n11,.string s11,.bool n12,.string s12,.bool n13,.string s13] ++ #[.bool i2,.bool n20,.string s20,.bool n21,.string s21,.bool n22,.string s22,.bool n23,.string s23] ++ #[.bool i3,.bool n30,.string s30,.bool n31,.string s31,.bool n32,.string s32,.bool n33,.string s33] : Array Value) = #[.bool i0,.bool n00,.string s00,.bool n01,.string s01,.bool n02,.string s02,.bool n03,.string s03,.bool i1,.bool n10,.string s10,.bool n11,.string s11,.bool n12,.string s12,.bool n13,.string s13,.bool i2,.bool n20,.string s20,.bool n21,.string s21,.bool n22,.string s22,.bool n23,.string s23,.bool i3,.bool n30,.string s30,.bool n31,.string s31,.bool n32,.string s32,.bool n33,.string s33] from by simp] at hv
 subst hv
 obtain ⟨W,HV⟩ := opbox w (.bool i0) (.bool n00) (.string s00) (.bool n01) (.string s01) (.bool n02) (.string s02) (.bool n03) (.string s03) (.bool i1) (.bool n10) (.string s10) (.bool n11) (.string s11) (.bool n12) (.string s12) (.bool n13) (.string s13) (.bool i2) (.bool n20) (.string s20) (.bool n21) (.string s21) (.bool n22) (.string s22) (.bool n23) (.string s23) (.bool i3) (.bool n30) (.string s30) (.bool n31) (.string s31) (.bool n32) (.string s32) (.bool n33) (.string s33)
 have HS0 := Lib.hid S0
 have HM0 := Lib.hid M0
 have HS1 := Lib.hid S1
 have HM1 := Lib.hid M1
 have HS2 := Lib.hid S2
 have HM2 := Lib.hid M2
 have HS3 := Lib.hid S3
 have HM3 := Lib.hid M3
 clear S0 S1 S2 S3 M0 M1 M2 M3 e0 e1 e2 e3 h0 h1 h2 h3
 obtain ⟨hg,r0,o0⟩ := HV.out.2.2.2 W br
 have hsz := HV.out.2.2.1
 have hR0 : Rcv (Mo (Mo A (w.heap.size + 1)) (w.heap.size + 2)) W := rcv_more (rcv_more hA HV.out.2.1 r0 (noW_12 _ _ _ _ _ _ _ _ _ _ _ _ _)) br o0 (noW_12 _ _ _ _ _ _ _ _ _ _ _ _ _)
 have HW0 := Lib.hid (And.intro hR0 (And.intro r0 (And.intro o0 (And.intro HV.out.2.1 (show w.heap.size + 2 < W.heap.size by omega)))))
 have HAA := Lib.hid hA
 clear hR0 r0 o0 hsz hA
 have hgc := hg
 rw [HV.out.1] at hgc
 go_enter Tryz.func58,Tryz.ntmps58
 go_wp2_with (first
  | (refine Go.Great.wpList_boxTo rfl 73 _ rfl (some 1) rfl w.heap.size rfl _ rfl ?_)
  | (refine wpList_load_row rfl 73 _ rfl (w.heap.size) rfl 73 _ (0,0) _ hgc Tryz.underlying73 rfl (by kernel_rfl) ?_))
 try simp only [Nat.add_assoc,Nat.reduceAdd]
 rw [← HV.out.1]
 clear hg hgc
 refine wp_loop_rounds 5 ?_
 obtain ⟨w0,hw0⟩ : ∃ w0,w0 = W := ⟨_,rfl⟩
 rw [← hw0] at HW0 ⊢
 clear hw0
 have ix : ∀ w,(Instr.index 73 (.agg #[.bool i0,.bool n00,.string s00,.bool n01,.string s01,.bool n02,.string s02,.bool n03,.string s03,.bool i1,.bool n10,.string s10,.bool n11,.string s11,.bool n12,.string s12,.bool n13,.string s13,.bool i2,.bool n20,.string s20,.bool n21,.string s21,.bool n22,.string s22,.bool n23,.string s23,.bool i3,.bool n30,.string s30,.bool n31,.string s31,.bool n32,.string s32,.bool n33,.string s33]) (.int .i64 0)).run Tryz.prog w = .ok (.agg #[.bool i0,.bool n00,.string s00,.bool n01,.string s01,.bool n02,.string s02,.bool n03,.string s03]) w := fun _ => by kernel_rfl
 rw [rounds_succ]
 go_wp2_with fail
 refine (HS0.out (Mo (Mo A (w.heap.size + 1)) (w.heap.size + 2)) _ (HW0.out.1.below (br.alloc (Nat.le_refl _) _))).mono ?_
 rintro e w0a ⟨u,rfl,hba,hpl⟩
 clear ix
 obtain ⟨a0,b0,rfl,_⟩ := pl_agg hpl
 obtain ⟨j0,hj⟩ : ∃ j,j = p0.isNone := ⟨_,rfl⟩
 rw [← hj] at hpl ⊢
 clear hj
 have hb1 : Below w0.heap.size w0 w0a := (br.alloc (Nat.le_refl _) _).trans (hba.mono (by simp))
 obtain ⟨⟨x0,x1,x2,x3,x4,x5,x6,x7,x8⟩,_⟩ := new_nine w0 _ _ _ _ _ _ _ _ _ _ hba
 have hx : w0.heap.size < w0a.heap.size := by have := hba.size; simp at this; omega
 have HL0 := Lib.hid (And.intro hpl hb1)
 clear hpl hb1 hba
 go_wp2_with fail
 refine (HM0.out _).mono ?_
 rintro e w0b ⟨rfl,hbb⟩
 have hb2 : Below w0a.heap.size w0a w0b := (br.alloc (Nat.le_refl _) _).trans (hbb.mono (by simp))
 obtain ⟨y0,y1,y2⟩ := new_three w0a _ _ _ _ hbb
 have hy : w0a.heap.size < w0b.heap.size := by have := hbb.size; simp at this; omega
 have hb12 := HL0.out.2.trans (hb2.mono HL0.out.2.size)
 have ob := (hb12.block _ HW0.out.2.2.2.2).trans HW0.out.2.2.1
 have hr1 : w.heap.size + 1 < w0.heap.size := by have := HW0.out.2.2.2.2; omega
 have rb := (hb12.block _ hr1).trans HW0.out.2.1
 have hn2 : w.heap.size + 2 < w0b.heap.size := Nat.lt_of_lt_of_le HW0.out.2.2.2.2 hb12.size
 have z0 : w0b.cell? ⟨w.heap.size + 2,0,none⟩ = some (.bool false) := by simp [World.cell?,ob]
 have z1 : w0b.cell? ⟨w.heap.size + 2,1,none⟩ = some (.pointer none) := by simp [World.cell?,ob]
 have z2 : w0b.cell? ⟨w.heap.size + 2,2,none⟩ = some (.pointer none) := by simp [World.cell?,ob]
 have f0 : w0b.frozen? ⟨w.heap.size + 2,0,none⟩ = false := by simp [World.frozen?,ob]
 have f1 : w0b.frozen? ⟨w.heap.size + 2,1,none⟩ = false := by simp [World.frozen?,ob]
 have f2 : w0b.frozen? ⟨w.heap.size + 2,2,none⟩ = false := by simp [World.frozen?,ob]
 have hne : w.heap.size + 2 ≠ w0a.heap.size := by have h1 := HL0.out.2.size; have h2 := HW0.out.2.2.2.2; omega
 have HO := Lib.hid (And.intro ob (And.intro rb (And.intro hb12 (And.intro hb2 (And.intro hn2 hne)))))
 clear ob rb hb12 hb2 hbb hr1 x0 x1 x2 x3 x4 x5 x6 x7 x8 hx hne
 go_wp2_with fail
 obtain ⟨w1,hw⟩ : ∃ w1,w1 = ((w0b.setCell ⟨w.heap.size + 2,0,none⟩ (.bool j0)).setCell ⟨w.heap.size + 2,1,none⟩ (.pointer a0)).setCell ⟨w.heap.size + 2,2,none⟩ (.pointer b0) := ⟨_,rfl⟩
 rw [← hw]
 have ob : w1.heap[w.heap.size + 2]? = some (.cells #[.bool j0,.pointer a0,.pointer b0,.bool false,.pointer none,.pointer none,.bool false,.pointer none,.pointer none,.bool false,.pointer none,.pointer none] 70 (0,0)) := by
  rw [hw]; simp [World.setCell,Array.getElem?_modify,HO.out.1]
 have rb : w1.heap[w.heap.size + 1]? = some (.cells #[.bool false,.pointer none,.pointer none,.bool false,.pointer none,.pointer none,.bool false,.pointer none,.pointer none,.bool false,.pointer none,.pointer none] 70 (0,0)) := by
  rw [hw,Below.heap_setCell _ _ _ _ (by simp),Below.heap_setCell _ _ _ _ (by simp),Below.heap_setCell _ _ _ _ (by simp)]; exact HO.out.2.1
 have hbw : Below w.heap.size w w1 := by
  rw [hw]; exact (((HW0.out.2.2.2.1.trans (HO.out.2.2.1.mono HW0.out.2.2.2.1.size)).setCell (p := ⟨w.heap.size + 2,0,none⟩) (Nat.le_add_right _ _) _).setCell (p := ⟨w.heap.size + 2,1,none⟩) (Nat.le_add_right _ _) _).setCell (p := ⟨w.heap.size + 2,2,none⟩) (Nat.le_add_right _ _) _
 have hsz : w.heap.size + 2 < w1.heap.size := by rw [hw]; simpa [World.setCell] using HO.out.2.2.2.2.1
 have hR : Rcv (Mo (Mo A (w.heap.size + 1)) (w.heap.size + 2)) w1 := rcv_more (rcv_more HAA.out hbw rb (noW_12 _ _ _ _ _ _ _ _ _ _ _ _ _)) br ob (noW_12 _ _ _ _ _ _ _ _ _ _ _ _ _)
 have set3 : ∀ (R : Fact) (x : Value),R.Keeps → R x w0b (Mo (Mo A (w.heap.size + 1)) (w.heap.size + 2)) → R x w1 (Mo (Mo A (w.heap.size + 1)) (w.heap.size + 2)) := fun R x hR h => by
  rw [hw]; exact keep_at hR (.inr rfl) (keep_at hR (.inr rfl) (keep_at hR (.inr rfl) h))
 have HF0 := Lib.hid (set3 (PlF p0) _ (PlF.keeps p0) (Fact.Keeps.below (PlF.keeps p0) HO.out.2.2.2.1 HL0.out.1))
 have HW1 := Lib.hid (And.intro hR (And.intro rb (And.intro ob (And.intro hbw hsz))))
 clear hw ob rb hbw hsz hR set3 y0 y1 y2 z0 z1 z2 f0 f1 f2 hy hn2 HO HL0 HM0 HS0
 have ix : ∀ w,(Instr.index 73 (.agg #[.bool i0,.bool n00,.string s00,.bool n01,.string s01,.bool n02,.string s02,.bool n03,.string s03,.bool i1,.bool n10,.string s10,.bool n11,.string s11,.bool n12,.string s12,.bool n13,.string s13,.bool i2,.bool n20,.string s20,.bool n21,.string s21,.bool n22,.string s22,.bool n23,.string s23,.bool i3,.bool n30,.string s30,.bool n31,.string s31,.bool n32,.string s32,.bool n33,.string s33]) (.int .i64 1)).run Tryz.prog w = .ok (.agg #[.bool i1,.bool n10,.string s10,.bool n11,.string s11,.bool n12,.string s12,.bool n13,.string s13]) w := fun _ => by kernel_rfl
 rw [rounds_succ]
 go_wp2_with fail
 refine (HS1.out (Mo (Mo A (w.heap.size + 1)) (w.heap.size + 2)) _ (HW1.out.1.below (br.alloc (Nat.le_refl _) _))).mono ?_
 rintro e w1a ⟨u,rfl,hba,hpl⟩
 clear ix
 obtain ⟨a1,b1,rfl,_⟩ := pl_agg hpl
 obtain ⟨j1,hj⟩ : ∃ j,j = p1.isNone := ⟨_,rfl⟩
 rw [← hj] at hpl ⊢
 clear hj
 have hb1 : Below w1.heap.size w1 w1a := (br.alloc (Nat.le_refl _) _).trans (hba.mono (by simp))
 obtain ⟨⟨x0,x1,x2,x3,x4,x5,x6,x7,x8⟩,_⟩ := new_nine w1 _ _ _ _ _ _ _ _ _ _ hba
 have hx : w1.heap.size < w1a.heap.size := by have := hba.size; simp at this; omega
 have HL1 := Lib.hid (And.intro hpl hb1)
 clear hpl hb1 hba
 go_wp2_with fail
 refine (HM1.out _).mono ?_
 rintro e w1b ⟨rfl,hbb⟩
 have hb2 : Below w1a.heap.size w1a w1b := (br.alloc (Nat.le_refl _) _).trans (hbb.mono (by simp))
 obtain ⟨y0,y1,y2⟩ := new_three w1a _ _ _ _ hbb
 have hy : w1a.heap.size < w1b.heap.size := by have := hbb.size; simp at this; omega
 have hb12 := HL1.out.2.trans (hb2.mono HL1.out.2.size)
 have ob := (hb12.block _ HW1.out.2.2.2.2).trans HW1.out.2.2.1
 have hr1 : w.heap.size + 1 < w1.heap.size := by have := HW1.out.2.2.2.2; omega
 have rb := (hb12.block _ hr1).trans HW1.out.2.1
 have hn2 : w.heap.size + 2 < w1b.heap.size := Nat.lt_of_lt_of_le HW1.out.2.2.2.2 hb12.size
 have z0 : w1b.cell? ⟨w.heap.size + 2,3,none⟩ = some (.bool false) := by simp [World.cell?,ob]
 have z1 : w1b.cell? ⟨w.heap.size + 2,4,none⟩ = some (.pointer none) := by simp [World.cell?,ob]
 have z2 : w1b.cell? ⟨w.heap.size + 2,5,none⟩ = some (.pointer none) := by simp [World.cell?,ob]
 have f0 : w1b.frozen? ⟨w.heap.size + 2,3,none⟩ = false := by simp [World.frozen?,ob]
 have f1 : w1b.frozen? ⟨w.heap.size + 2,4,none⟩ = false := by simp [World.frozen?,ob]
 have f2 : w1b.frozen? ⟨w.heap.size + 2,5,none⟩ = false := by simp [World.frozen?,ob]
 have hne : w.heap.size + 2 ≠ w1a.heap.size := by have h1 := HL1.out.2.size; have h2 := HW1.out.2.2.2.2; omega
 have HO := Lib.hid (And.intro ob (And.intro rb (And.intro hb12 (And.intro hb2 (And.intro hn2 hne)))))
 clear ob rb hb12 hb2 hbb hr1 x0 x1 x2 x3 x4 x5 x6 x7 x8 hx hne
 go_wp2_with fail
 obtain ⟨w2,hw⟩ : ∃ w2,w2 = ((w1b.setCell ⟨w.heap.size + 2,3,none⟩ (.bool j1)).setCell ⟨w.heap.size + 2,4,none⟩ (.pointer a1)).setCell ⟨w.heap.size + 2,5,none⟩ (.pointer b1) := ⟨_,rfl⟩
 rw [← hw]
 have ob : w2.heap[w.heap.size + 2]? = some (.cells #[.bool j0,.pointer a0,.pointer b0,.bool j1,.pointer a1,.pointer b1,.bool false,.pointer none,.pointer none,.bool false,.pointer none,.pointer none] 70 (0,0)) := by
  rw [hw]; simp [World.setCell,Array.getElem?_modify,HO.out.1]
 have rb : w2.heap[w.heap.size + 1]? = some (.cells #[.bool false,.pointer none,.pointer none,.bool false,.pointer none,.pointer none,.bool false,.pointer none,.pointer none,.bool false,.pointer none,.pointer none] 70 (0,0)) := by
  rw [hw,Below.heap_setCell _ _ _ _ (by simp),Below.heap_setCell _ _ _ _ (by simp),Below.heap_setCell _ _ _ _ (by simp)]; exact HO.out.2.1
 have hbw : Below w.heap.size w w2 := by
  rw [hw]; exact (((HW1.out.2.2.2.1.trans (HO.out.2.2.1.mono HW1.out.2.2.2.1.size)).setCell (p := ⟨w.heap.size + 2,3,none⟩) (Nat.le_add_right _ _) _).setCell (p := ⟨w.heap.size + 2,4,none⟩) (Nat.le_add_right _ _) _).setCell (p := ⟨w.heap.size + 2,5,none⟩) (Nat.le_add_right _ _) _
 have hsz : w.heap.size + 2 < w2.heap.size := by rw [hw]; simpa [World.setCell] using HO.out.2.2.2.2.1
 have hR : Rcv (Mo (Mo A (w.heap.size + 1)) (w.heap.size + 2)) w2 := rcv_more (rcv_more HAA.out hbw rb (noW_12 _ _ _ _ _ _ _ _ _ _ _ _ _)) br ob (noW_12 _ _ _ _ _ _ _ _ _ _ _ _ _)
 have set3 : ∀ (R : Fact) (x : Value),R.Keeps → R x w1b (Mo (Mo A (w.heap.size + 1)) (w.heap.size + 2)) → R x w2 (Mo (Mo A (w.heap.size + 1)) (w.heap.size + 2)) := fun R x hR h => by
  rw [hw]; exact keep_at hR (.inr rfl) (keep_at hR (.inr rfl) (keep_at hR (.inr rfl) h))
 have HF0 := Lib.hid (set3 (PlF p0) _ (PlF.keeps p0) (Fact.Keeps.below (PlF.keeps p0) HO.out.2.2.1 HF0.out))
 have HF1 := Lib.hid (set3 (PlF p1) _ (PlF.keeps p1) (Fact.Keeps.below (PlF.keeps p1) HO.out.2.2.2.1 HL1.out.1))
 have HW2 := Lib.hid (And.intro hR (And.intro rb (And.intro ob (And.intro hbw hsz))))
 clear hw ob rb hbw hsz hR set3 y0 y1 y2 z0 z1 z2 f0 f1 f2 hy hn2 HO HL1 HM1 HS1
 have ix : ∀ w,(Instr.index 73 (.agg #[.bool i0,.bool n00,.string s00,.bool n01,.string s01,.bool n02,.string s02,.bool n03,.string s03,.bool i1,.bool n10,.string s10,.bool n11,.string s11,.bool n12,.string s12,.bool n13,.string s13,.bool i2,.bool n20,.string s20,.bool n21,.string s21,.bool n22,.string s22,.bool n23,.string s23,.bool i3,.bool n30,.string s30,.bool n31,.string s31,.bool n32,.string s32,.bool n33,.string s33]) (.int .i64 2)).run Tryz.prog w = .ok (.agg #[.bool i2,.bool n20,.string s20,.bool n21,.string s21,.bool n22,.string s22,.bool n23,.string s23]) w := fun _ => by kernel_rfl
 rw [rounds_succ]
 go_wp2_with fail
 refine (HS2.out (Mo (Mo A (w.heap.size + 1)) (w.heap.size + 2)) _ (HW2.out.1.below (br.alloc (Nat.le_refl _) _))).mono ?_
 rintro e w2a ⟨u,rfl,hba,hpl⟩
 clear ix
 obtain ⟨a2,b2,rfl,_⟩ := pl_agg hpl
 obtain ⟨j2,hj⟩ : ∃ j,j = p2.isNone := ⟨_,rfl⟩
 rw [← hj] at hpl ⊢
 clear hj
 have hb1 : Below w2.heap.size w2 w2a := (br.alloc (Nat.le_refl _) _).trans (hba.mono (by simp))
 obtain ⟨⟨x0,x1,x2,x3,x4,x5,x6,x7,x8⟩,_⟩ := new_nine w2 _ _ _ _ _ _ _ _ _ _ hba
 have hx : w2.heap.size < w2a.heap.size := by have := hba.size; simp at this; omega
 have HL2 := Lib.hid (And.intro hpl hb1)
 clear hpl hb1 hba
 go_wp2_with fail
 refine (HM2.out _).mono ?_
 rintro e w2b ⟨rfl,hbb⟩
 have hb2 : Below w2a.heap.size w2a w2b := (br.alloc (Nat.le_refl _) _).trans (hbb.mono (by simp))
 obtain ⟨y0,y1,y2⟩ := new_three w2a _ _ _ _ hbb
 have hy : w2a.heap.size < w2b.heap.size := by have := hbb.size; simp at this; omega
 have hb12 := HL2.out.2.trans (hb2.mono HL2.out.2.size)
 have ob := (hb12.block _ HW2.out.2.2.2.2).trans HW2.out.2.2.1
 have hr1 : w.heap.size + 1 < w2.heap.size := by have := HW2.out.2.2.2.2; omega
 have rb := (hb12.block _ hr1).trans HW2.out.2.1
 have hn2 : w.heap.size + 2 < w2b.heap.size := Nat.lt_of_lt_of_le HW2.out.2.2.2.2 hb12.size
 have z0 : w2b.cell? ⟨w.heap.size + 2,6,none⟩ = some (.bool false) := by simp [World.cell?,ob]
 have z1 : w2b.cell? ⟨w.heap.size + 2,7,none⟩ = some (.pointer none) := by simp [World.cell?,ob]
 have z2 : w2b.cell? ⟨w.heap.size + 2,8,none⟩ = some (.pointer none) := by simp [World.cell?,ob]
 have f0 : w2b.frozen? ⟨w.heap.size + 2,6,none⟩ = false := by simp [World.frozen?,ob]
 have f1 : w2b.frozen? ⟨w.heap.size + 2,7,none⟩ = false := by simp [World.frozen?,ob]
 have f2 : w2b.frozen? ⟨w.heap.size + 2,8,none⟩ = false := by simp [World.frozen?,ob]
 have hne : w.heap.size + 2 ≠ w2a.heap.size := by have h1 := HL2.out.2.size; have h2 := HW2.out.2.2.2.2; omega
 have HO := Lib.hid (And.intro ob (And.intro rb (And.intro hb12 (And.intro hb2 (And.intro hn2 hne)))))
 clear ob rb hb12 hb2 hbb hr1 x0 x1 x2 x3 x4 x5 x6 x7 x8 hx hne
 go_wp2_with fail
 obtain ⟨w3,hw⟩ : ∃ w3,w3 = ((w2b.setCell ⟨w.heap.size + 2,6,none⟩ (.bool j2)).setCell ⟨w.heap.size + 2,7,none⟩ (.pointer a2)).setCell ⟨w.heap.size + 2,8,none⟩ (.pointer b2) := ⟨_,rfl⟩
 rw [← hw]
 have ob : w3.heap[w.heap.size + 2]? = some (.cells #[.bool j0,.pointer a0,.pointer b0,.bool j1,.pointer a1,.pointer b1,.bool j2,.pointer a2,.pointer b2,.bool false,.pointer none,.pointer none] 70 (0,0)) := by
  rw [hw]; simp [World.setCell,Array.getElem?_modify,HO.out.1]
 have rb : w3.heap[w.heap.size + 1]? = some (.cells #[.bool false,.pointer none,.pointer none,.bool false,.pointer none,.pointer none,.bool false,.pointer none,.pointer none,.bool false,.pointer none,.pointer none] 70 (0,0)) := by
  rw [hw,Below.heap_setCell _ _ _ _ (by simp),Below.heap_setCell _ _ _ _ (by simp),Below.heap_setCell _ _ _ _ (by simp)]; exact HO.out.2.1
 have hbw : Below w.heap.size w w3 := by
  rw [hw]; exact (((HW2.out.2.2.2.1.trans (HO.out.2.2.1.mono HW2.out.2.2.2.1.size)).setCell (p := ⟨w.heap.size + 2,6,none⟩) (Nat.le_add_right _ _) _).setCell (p := ⟨w.heap.size + 2,7,none⟩) (Nat.le_add_right _ _) _).setCell (p := ⟨w.heap.size + 2,8,none⟩) (Nat.le_add_right _ _) _
 have hsz : w.heap.size + 2 < w3.heap.size := by rw [hw]; simpa [World.setCell] using HO.out.2.2.2.2.1
 have hR : Rcv (Mo (Mo A (w.heap.size + 1)) (w.heap.size + 2)) w3 := rcv_more (rcv_more HAA.out hbw rb (noW_12 _ _ _ _ _ _ _ _ _ _ _ _ _)) br ob (noW_12 _ _ _ _ _ _ _ _ _ _ _ _ _)
 have set3 : ∀ (R : Fact) (x : Value),R.Keeps → R x w2b (Mo (Mo A (w.heap.size + 1)) (w.heap.size + 2)) → R x w3 (Mo (Mo A (w.heap.size + 1)) (w.heap.size + 2)) := fun R x hR h => by
  rw [hw]; exact keep_at hR (.inr rfl) (keep_at hR (.inr rfl) (keep_at hR (.inr rfl) h))
 have HF0 := Lib.hid (set3 (PlF p0) _ (PlF.keeps p0) (Fact.Keeps.below (PlF.keeps p0) HO.out.2.2.1 HF0.out))
 have HF1 := Lib.hid (set3 (PlF p1) _ (PlF.keeps p1) (Fact.Keeps.below (PlF.keeps p1) HO.out.2.2.1 HF1.out))
 have HF2 := Lib.hid (set3 (PlF p2) _ (PlF.keeps p2) (Fact.Keeps.below (PlF.keeps p2) HO.out.2.2.2.1 HL2.out.1))
 have HW3 := Lib.hid (And.intro hR (And.intro rb (And.intro ob (And.intro hbw hsz))))
 clear hw ob rb hbw hsz hR set3 y0 y1 y2 z0 z1 z2 f0 f1 f2 hy hn2 HO HL2 HM2 HS2
 have ix : ∀ w,(Instr.index 73 (.agg #[.bool i0,.bool n00,.string s00,.bool n01,.string s01,.bool n02,.string s02,.bool n03,.string s03,.bool i1,.bool n10,.string s10,.bool n11,.string s11,.bool n12,.string s12,.bool n13,.string s13,.bool i2,.bool n20,.string s20,.bool n21,.string s21,.bool n22,.string s22,.bool n23,.string s23,.bool i3,.bool n30,.string s30,.bool n31,.string s31,.bool n32,.string s32,.bool n33,.string s33]) (.int .i64 3)).run Tryz.prog w = .ok (.agg #[.bool i3,.bool n30,.string s30,.bool n31,.string s31,.bool n32,.string s32,.bool n33,.string s33]) w := fun _ => by kernel_rfl
 rw [rounds_succ]
 go_wp2_with fail
 refine (HS3.out (Mo (Mo A (w.heap.size + 1)) (w.heap.size + 2)) _ (HW3.out.1.below (br.alloc (Nat.le_refl _) _))).mono ?_
 rintro e w3a ⟨u,rfl,hba,hpl⟩
 clear ix
 obtain ⟨a3,b3,rfl,_⟩ := pl_agg hpl
 obtain ⟨j3,hj⟩ : ∃ j,j = p3.isNone := ⟨_,rfl⟩
 rw [← hj] at hpl ⊢
 clear hj
 have hb1 : Below w3.heap.size w3 w3a := (br.alloc (Nat.le_refl _) _).trans (hba.mono (by simp))
 obtain ⟨⟨x0,x1,x2,x3,x4,x5,x6,x7,x8⟩,_⟩ := new_nine w3 _ _ _ _ _ _ _ _ _ _ hba
 have hx : w3.heap.size < w3a.heap.size := by have := hba.size; simp at this; omega
 have HL3 := Lib.hid (And.intro hpl hb1)
 clear hpl hb1 hba
 go_wp2_with fail
 refine (HM3.out _).mono ?_
 rintro e w3b ⟨rfl,hbb⟩
 have hb2 : Below w3a.heap.size w3a w3b := (br.alloc (Nat.le_refl _) _).trans (hbb.mono (by simp))
 obtain ⟨y0,y1,y2⟩ := new_three w3a _ _ _ _ hbb
 have hy : w3a.heap.size < w3b.heap.size := by have := hbb.size; simp at this; omega
 have hb12 := HL3.out.2.trans (hb2.mono HL3.out.2.size)
 have ob := (hb12.block _ HW3.out.2.2.2.2).trans HW3.out.2.2.1
 have hr1 : w.heap.size + 1 < w3.heap.size := by have := HW3.out.2.2.2.2; omega
 have rb := (hb12.block _ hr1).trans HW3.out.2.1
 have hn2 : w.heap.size + 2 < w3b.heap.size := Nat.lt_of_lt_of_le HW3.out.2.2.2.2 hb12.size
 have z0 : w3b.cell? ⟨w.heap.size + 2,9,none⟩ = some (.bool false) := by simp [World.cell?,ob]
 have z1 : w3b.cell? ⟨w.heap.size + 2,10,none⟩ = some (.pointer none) := by simp [World.cell?,ob]
 have z2 : w3b.cell? ⟨w.heap.size + 2,11,none⟩ = some (.pointer none) := by simp [World.cell?,ob]
 have f0 : w3b.frozen? ⟨w.heap.size + 2,9,none⟩ = false := by simp [World.frozen?,ob]
 have f1 : w3b.frozen? ⟨w.heap.size + 2,10,none⟩ = false := by simp [World.frozen?,ob]
 have f2 : w3b.frozen? ⟨w.heap.size + 2,11,none⟩ = false := by simp [World.frozen?,ob]
 have hne : w.heap.size + 2 ≠ w3a.heap.size := by have h1 := HL3.out.2.size; have h2 := HW3.out.2.2.2.2; omega
 have HO := Lib.hid (And.intro ob (And.intro rb (And.intro hb12 (And.intro hb2 (And.intro hn2 hne)))))
 clear ob rb hb12 hb2 hbb hr1 x0 x1 x2 x3 x4 x5 x6 x7 x8 hx hne
 go_wp2_with fail
 obtain ⟨w4,hw⟩ : ∃ w4,w4 = ((w3b.setCell ⟨w.heap.size + 2,9,none⟩ (.bool j3)).setCell ⟨w.heap.size + 2,10,none⟩ (.pointer a3)).setCell ⟨w.heap.size + 2,11,none⟩ (.pointer b3) := ⟨_,rfl⟩
 rw [← hw]
 have ob : w4.heap[w.heap.size + 2]? = some (.cells #[.bool j0,.pointer a0,.pointer b0,.bool j1,.pointer a1,.pointer b1,.bool j2,.pointer a2,.pointer b2,.bool j3,.pointer a3,.pointer b3] 70 (0,0)) := by
  rw [hw]; simp [World.setCell,Array.getElem?_modify,HO.out.1]
 have rb : w4.heap[w.heap.size + 1]? = some (.cells #[.bool false,.pointer none,.pointer none,.bool false,.pointer none,.pointer none,.bool false,.pointer none,.pointer none,.bool false,.pointer none,.pointer none] 70 (0,0)) := by
  rw [hw,Below.heap_setCell _ _ _ _ (by simp),Below.heap_setCell _ _ _ _ (by simp),Below.heap_setCell _ _ _ _ (by simp)]; exact HO.out.2.1
 have hbw : Below w.heap.size w w4 := by
  rw [hw]; exact (((HW3.out.2.2.2.1.trans (HO.out.2.2.1.mono HW3.out.2.2.2.1.size)).setCell (p := ⟨w.heap.size + 2,9,none⟩) (Nat.le_add_right _ _) _).setCell (p := ⟨w.heap.size + 2,10,none⟩) (Nat.le_add_right _ _) _).setCell (p := ⟨w.heap.size + 2,11,none⟩) (Nat.le_add_right _ _) _
 have hsz : w.heap.size + 2 < w4.heap.size := by rw [hw]; simpa [World.setCell] using HO.out.2.2.2.2.1
 have hR : Rcv (Mo (Mo A (w.heap.size + 1)) (w.heap.size + 2)) w4 := rcv_more (rcv_more HAA.out hbw rb (noW_12 _ _ _ _ _ _ _ _ _ _ _ _ _)) br ob (noW_12 _ _ _ _ _ _ _ _ _ _ _ _ _)
 have set3 : ∀ (R : Fact) (x : Value),R.Keeps → R x w3b (Mo (Mo A (w.heap.size + 1)) (w.heap.size + 2)) → R x w4 (Mo (Mo A (w.heap.size + 1)) (w.heap.size + 2)) := fun R x hR h => by
  rw [hw]; exact keep_at hR (.inr rfl) (keep_at hR (.inr rfl) (keep_at hR (.inr rfl) h))
 have HF0 := Lib.hid (set3 (PlF p0) _ (PlF.keeps p0) (Fact.Keeps.below (PlF.keeps p0) HO.out.2.2.1 HF0.out))
 have HF1 := Lib.hid (set3 (PlF p1) _ (PlF.keeps p1) (Fact.Keeps.below (PlF.keeps p1) HO.out.2.2.1 HF1.out))
 have HF2 := Lib.hid (set3 (PlF p2) _ (PlF.keeps p2) (Fact.Keeps.below (PlF.keeps p2) HO.out.2.2.1 HF2.out))
 have HF3 := Lib.hid (set3 (PlF p3) _ (PlF.keeps p3) (Fact.Keeps.below (PlF.keeps p3) HO.out.2.2.2.1 HL3.out.1))
 have HW4 := Lib.hid (And.intro hR (And.intro rb (And.intro ob (And.intro hbw hsz))))
 clear hw ob rb hbw hsz hR set3 y0 y1 y2 z0 z1 z2 f0 f1 f2 hy hn2 HO HL3 HM3 HS3
 have hr := HW4.out.2.1
 have ho := HW4.out.2.2.1
 rw [rounds_succ]
 go_wp2_with (first
  | (refine wpList_load_row rfl 70 _ rfl (w.heap.size + 2) rfl 70 _ (0,0) _ ho Tryz.underlying70 rfl (by kernel_rfl) ?_)
  | (refine wpList_store_row rfl 70 _ _ rfl (w.heap.size + 1) #[.bool j0,.pointer a0,.pointer b0,.bool j1,.pointer a1,.pointer b1,.bool j2,.pointer a2,.pointer b2,.bool j3,.pointer a3,.pointer b3] rfl rfl 70 _ hr (by kernel_rfl) (by kernel_rfl) (by kernel_rfl) ?_))
 have hres := setRow_heap w4 (w.heap.size + 1) _ #[.bool j0,.pointer a0,.pointer b0,.bool j1,.pointer a1,.pointer b1,.bool j2,.pointer a2,.pointer b2,.bool j3,.pointer a3,.pointer b3] _ _ hr
 refine bodyPost_ret (v := .tuple #[.agg #[.bool j0,.pointer a0,.pointer b0,.bool j1,.pointer a1,.pointer b1,.bool j2,.pointer a2,.pointer b2,.bool j3,.pointer a3,.pointer b3],.int .i64 0]) (by simp [results,Tryz.results58,go_sem,World.cell?,hres]) rfl ⟨_,rfl,below_setRow HW4.out.2.2.2.1 (by omega) _,?_⟩
 have keep : ∀ (R : Fact) (x : Value),R.Keeps → R x w4 (Mo (Mo A (w.heap.size + 1)) (w.heap.size + 2)) → R x (w4.setRow (w.heap.size + 1) #[.bool j0,.pointer a0,.pointer b0,.bool j1,.pointer a1,.pointer b1,.bool j2,.pointer a2,.pointer b2,.bool j3,.pointer a3,.pointer b3]) A := fun R x hR h =>
  hR _ _ _ _ _ (by simp) (fun b _ hb => ⟨setRow_other _ _ _ _ (fun e => hb (.inl (.inr e))),fun h => hb (.inl (.inl h))⟩) h
 exact ⟨_,_,_,_,_,_,_,_,_,_,_,_,rfl,keep _ _ (PlF.keeps p0) HF0.out,keep _ _ (PlF.keeps p1) HF1.out,keep _ _ (PlF.keeps p2) HF2.out,keep _ _ (PlF.keeps p3) HF3.out⟩
end Go.Proofs.YtepefgkihnjjaaaGreat
