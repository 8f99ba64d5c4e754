/- Laws for the walk. -/
import Derived.Test.YteljkhfbgliokaaGreatZzz
import Derived.Test.YteljkhfbgliokaaGreatZax
import Derived.Test.YteljkhfbgliokaaGreatZba
set_option linter.unusedVariables false
namespace Go.Proofs.YteljkhfbgliokaaGreat
open Go.RowKit Tr
theorem sq_nonneg (a : Rat) : 0 ≤ a * a := by
 rcases Rat.nonneg_total a with h | h
 ·exact Rat.mul_nonneg h h
 ·have := Rat.mul_nonneg h h
  rwa [Rat.neg_mul,Rat.mul_neg,Rat.neg_neg] at this
theorem sq_zero {a b : Rat} (h : a * a + b * b = 0) : a = 0 := by
 have h1 : -(a * a) = b * b := by
  have : -(a * a) + (a * a + b * b) = -(a * a) + 0 := by rw [h]
  rw [← Rat.add_assoc,Rat.neg_add_cancel,Rat.zero_add,Rat.add_zero] at this
  exact this.symm
 have h2 := Rat.nonneg_antisymm (sq_nonneg a) (by rw [h1]; exact sq_nonneg b)
 rcases Rat.mul_eq_zero.1 h2 with h | h <;> exact h
theorem norm_zero {a b : Rat} : a * a + b * b = 0 ↔ a = 0 ∧ b = 0 := by
 constructor
 ·intro h; exact ⟨sq_zero h,sq_zero (by rw [Rat.add_comm]; exact h)⟩
 ·rintro ⟨rfl,rfl⟩; decide +kernel
instance : Div QC := ⟨fun x y => ⟨(x.re * y.re - x.im * (-y.im)) * (y.re * y.re + y.im * y.im)⁻¹,(x.re * (-y.im) + x.im * y.re) * (y.re * y.re + y.im * y.im)⁻¹⟩⟩
theorem ZL_div {x y : QC} {k l : Nat} (h0 : y.re * y.re + y.im * y.im ≠ 0) (hx : ZL x k) (hy : ZL y l) : ZL (x / y) (k + l + (k + l) + 1 + (l + l + (l + l) + 1)) := by
 have li : RL (y.re * y.re + y.im * y.im)⁻¹ (l + l + (l + l) + 1) := RL_inv h0 (RL_add (RL_mul hy.1 hy.1) (RL_mul hy.2 hy.2))
 exact ⟨RL_mul (RL_sub (RL_mul hx.1 hy.1) (RL_mul hx.2 (RL_neg hy.2))) li,RL_mul (RL_add (RL_mul hx.1 (RL_neg hy.2)) (RL_mul hx.2 hy.1)) li⟩
def infP : Value := .agg #[.bool true,.bool false,.string ⟨#[]⟩,.bool false,.string ⟨#[]⟩,.bool false,.string ⟨#[]⟩,.bool false,.string ⟨#[]⟩]
def zP : Value := .agg #[.bool false,.bool false,.string ⟨#[]⟩,.bool false,.string ⟨#[]⟩,.bool false,.string ⟨#[]⟩,.bool false,.string ⟨#[]⟩]
def encPt (z : QC) : Value := .agg #[.bool false,.bool (decide (z.re.num < 0)),.string (strN z.re.num.natAbs),.bool false,.string (strN z.re.den),.bool (decide (z.im.num < 0)),.string (strN z.im.num.natAbs),.bool false,.string (strN z.im.den)]
def outP (x y : QC) : Value := if y = ⟨0,0⟩ then infP else if ShortF (x / y).re ∧ ShortF (x / y).im then encPt (x / y) else zP
def outPC (x y : QC) : Int := if y = ⟨0,0⟩ then 0 else if ShortF (x / y).re ∧ ShortF (x / y).im then 0 else 4
theorem new_nine (w : World) (x0 x1 x2 x3 x4 x5 x6 x7 x8 : Value) (T : TypeId) {w1 : World} (h : Below (w.alloc (.cells #[x0,x1,x2,x3,x4,x5,x6,x7,x8] T)).heap.size (w.alloc (.cells #[x0,x1,x2,x3,x4,x5,x6,x7,x8] T)) w1) :
  (w1.cell? ⟨w.heap.size,0,none⟩ = some x0 ∧ w1.cell? ⟨w.heap.size,1,none⟩ = some x1 ∧ w1.cell? ⟨w.heap.size,2,none⟩ = some x2 ∧ w1.cell? ⟨w.heap.size,3,none⟩ = some x3 ∧ w1.cell? ⟨w.heap.size,4,none⟩ = some x4 ∧ w1.cell? ⟨w.heap.size,5,none⟩ = some x5 ∧ w1.cell? ⟨w.heap.size,6,none⟩ = some x6 ∧ w1.cell? ⟨w.heap.size,7,none⟩ = some x7 ∧ w1.cell? ⟨w.heap.size,8,none⟩ = some x8) ∧
  w1.frozen? ⟨w.heap.size,0,none⟩ = false ∧ w1.frozen? ⟨w.heap.size,1,none⟩ = false ∧ w1.frozen? ⟨w.heap.size,2,none⟩ = false ∧ w1.frozen? ⟨w.heap.size,3,none⟩ = false ∧ w1.frozen? ⟨w.heap.size,4,none⟩ = false ∧ w1.frozen? ⟨w.heap.size,5,none⟩ = false ∧ w1.frozen? ⟨w.heap.size,6,none⟩ = false ∧ w1.frozen? ⟨w.heap.size,7,none⟩ = false ∧ w1.frozen? ⟨w.heap.size,8,none⟩ = false := by
 have e := (h.block w.heap.size (by simp)).trans (heap_alloc_new w _)
 simp [World.cell?,World.frozen?,e]
theorem outG_eight (a b : Rat) : ∃ b1 t1 b2 t2 b3 t3 b4 t4,outG a b = .agg #[.bool b1,.string t1,.bool b2,.string t2,.bool b3,.string t3,.bool b4,.string t4] := by
 unfold outG
 split
 ·exact ⟨_,_,_,_,_,_,_,_,rfl⟩
 ·exact ⟨_,_,_,_,_,_,_,_,rfl⟩
theorem outP_short {x y : QC} (h0 : y ≠ ⟨0,0⟩) (hc : outGC (x / y).re (x / y).im = 0) {b1 b2 b3 b4 : Bool} {t1 t2 t3 t4 : ByteArray} (e : outG (x / y).re (x / y).im = .agg #[.bool b1,.string t1,.bool b2,.string t2,.bool b3,.string t3,.bool b4,.string t4]) :
  outP x y = .agg #[.bool false,.bool b1,.string t1,.bool b2,.string t2,.bool b3,.string t3,.bool b4,.string t4] ∧ outPC x y = 0 := by
 have hs : ShortF (x / y).re ∧ ShortF (x / y).im := by
  unfold outGC at hc
  split at hc
  ·assumption
  ·cases hc
 unfold outP outPC
 rw [if_neg h0,if_neg h0,if_pos hs,if_pos hs]
 refine ⟨?_,rfl⟩
 unfold outG encG at e
 rw [if_pos hs] at e
 unfold encPt
 simp only [Value.agg.injEq,Array.mk.injEq,List.cons.injEq,Value.bool.injEq,Value.string.injEq,and_true,true_and] at e ⊢
 exact e
theorem outP_long {x y : QC} (h0 : y ≠ ⟨0,0⟩) (hc : outGC (x / y).re (x / y).im ≠ 0) : outP x y = zP ∧ outPC x y = 4 ∧ outGC (x / y).re (x / y).im = 4 := by
 have hs : ¬ (ShortF (x / y).re ∧ ShortF (x / y).im) := fun h => hc (by unfold outGC; rw [if_pos h])
 unfold outP outPC outGC
 rw [if_neg h0,if_neg h0,if_neg hs,if_neg hs]
 exact ⟨rfl,rfl,rfl⟩
set_option maxRecDepth 100000 in
set_option maxHeartbeats 3200000 in
theorem PPoint_any (x y : QC) (v : Value) (A : Nat → Prop) (w : World) (hv : PQ x y v w A) (k l : Nat) (hx : ZL x k) (hy : ZL y l) (hkl : (k + l + (k + l) + 1) + (l + l + (l + l) + 1) < 137438953472) :
  Calls Tryz.prog 34 #[v] w fun e w' => e = .returned (.tuple #[outP x y,.int .i64 (outPC x y)]) ∧ Below w.heap.size w w' := by
 have hv := Fact.Keeps.noA (PQ.keeps _ _) hv
 obtain ⟨u1,u2,u3,u4,rfl,g1,g2,g3,g4⟩ := id hv
 obtain ⟨W0,hW0⟩ : ∃ W0,W0 = w.alloc (.cells #[u1,u2,u3,u4] 69) := ⟨_,rfl⟩
 have hz0 : W0.heap.size = w.heap.size + 1 := by rw [hW0]; simp
 obtain ⟨W,hW⟩ : ∃ W,W = W0.alloc (.cells #[.bool false,.bool false,.string ⟨#[]⟩,.bool false,.string ⟨#[]⟩,.bool false,.string ⟨#[]⟩,.bool false,.string ⟨#[]⟩] 29) := ⟨_,rfl⟩
 have hb0 : Below w.heap.size w W0 := by rw [hW0]; exact br.alloc (Nat.le_refl _) _
 have hb1 : Below W0.heap.size W0 W := by rw [hW]; exact br.alloc (Nat.le_refl _) _
 have hb := hb0.trans (hb1.mono hb0.size)
 have hlt : w.heap.size < W.heap.size := by have := hb1.size; omega
 have hcs := fun w1 (h : Below W.heap.size W w1) => new_four w u1 u2 u3 u4 69 (w1 := w1) (by rw [← hW0]; exact hb1.trans (h.mono hb1.size))
 have px := Fact.Keeps.below (CQ.keeps x) hb (show (CQ x) (.agg #[u1,u2]) w NoA from ⟨_,_,rfl,g1,g2⟩)
 have py := Fact.Keeps.below (CQ.keeps y) hb (show (CQ y) (.agg #[u3,u4]) w NoA from ⟨_,_,rfl,g3,g4⟩)
 obtain ⟨rz,hrz⟩ : ∃ rz,rz = decide (y.re = 0 ∧ y.im = 0) := ⟨_,rfl⟩
 have HZ := Lib.hid (XZero_any y.re y.im (.agg #[u3,u4]) NoA W py rz (by rw [hrz]; simp))
 have HV := Lib.hid (And.intro (hW.trans (by rw [hW0])) (And.intro hb (And.intro (fun w1 (h : Below W.heap.size W w1) => new_nine W0 _ _ _ _ _ _ _ _ _ _ (w1 := w1) (by rw [← hW]; exact h)) (And.intro hcs (And.intro px py)))))
 rw [hz0] at HV
 obtain ⟨e0,e1,e2,e3,_⟩ := hcs W br
 have HR := Lib.hid hrz
 clear hv hb hb0 hb1 hW hW0 hz0 g1 g2 g3 g4 px py hcs hrz
 go_enter Tryz.func34,Tryz.ntmps34
 go_wp2_with fail
 rw [← HV.out.1]
 go_wp2_with fail
 refine HZ.out.mono ?_
 rintro e w1 ⟨rfl,hb1⟩
 obtain ⟨e0,e1,e2,e3,_⟩ := HV.out.2.2.2.1 w1 hb1
 cases rz
 ·have hne : ¬ (y.re = 0 ∧ y.im = 0) := of_decide_eq_false HR.out.symm
  have hn0 : y.re * y.re + y.im * y.im ≠ 0 := fun h => hne (norm_zero.1 h)
  have hy0 : y ≠ ⟨0,0⟩ := fun h => hne (by rw [h]; exact ⟨rfl,rfl⟩)
  have HD := Lib.hid (XDiv_any x.re x.im y.re y.im _ rfl hn0 (.agg #[u1,u2]) (.agg #[u3,u4]) NoA w1 (CP.below HV.out.2.2.2.2.1 hb1) (CP.below HV.out.2.2.2.2.2 hb1) (rcv_noA _) k l hx.1 hx.2 hy.1 hy.2 hkl)
  have HN := Lib.hid (And.intro hn0 (And.intro hy0 hb1))
  clear hne hn0 hy0 hb1 HZ
  go_wp2_with fail
  refine HD.out.mono ?_
  rintro e w2 ⟨v2,rfl,hb2,hc2⟩
  have hb02 := HN.out.2.2.trans (hb2.mono HN.out.2.2.size)
  have HG := Lib.hid (XGauss_any (x / y).re (x / y).im v2 NoA w2 hc2 ((ZL_div HN.out.1 hx hy).1.mono (by omega)) ((ZL_div HN.out.1 hx hy).2.mono (by omega)))
  obtain ⟨b1,t1,b2,t2,b3,t3,b4,t4,eg⟩ := outG_eight (x / y).re (x / y).im
  obtain ⟨kc,hkc⟩ : ∃ kc,kc = outGC (x / y).re (x / y).im := ⟨_,rfl⟩
  rw [eg,← hkc] at HG
  have HK := Lib.hid (And.intro eg hkc)
  have HB2 := Lib.hid hb02
  clear hc2 hb2 hb02 eg hkc HD e0 e1 e2 e3
  go_wp2_with fail
  refine HG.out.mono ?_
  rintro e w3 ⟨rfl,hb3⟩
  have hbw := HB2.out.trans (hb3.mono HB2.out.size)
  obtain ⟨⟨c0,c1,c2,c3,c4,c5,c6,c7,c8⟩,f0,f1,f2,f3,f4,f5,f6,f7,f8⟩ := HV.out.2.2.1 w3 hbw
  have hn2 : w.heap.size + 1 < w3.heap.size := by
   have h1 := hbw.size
   have h2 : W.heap.size = w.heap.size + 2 := by rw [HV.out.1]; simp
   omega
  have HF := Lib.hid (HV.out.2.1.trans (hbw.mono HV.out.2.1.size))
  clear hb3 hbw HG
  by_cases ck : kc = 0
  ·have HP := Lib.hid (outP_short HN.out.2.1 (HK.out.2.symm.trans ck) HK.out.1)
   subst ck
   go_wp2_with fail
   refine bodyPost_ret (v := .tuple #[.agg #[.bool false,.bool b1,.string t1,.bool b2,.string t2,.bool b3,.string t3,.bool b4,.string t4],.int .i64 0]) (by simp [results,Tryz.results34,go_sem,c0,c1,c2,c3,c4,c5,c6,c7,c8,hn2,cell_alloc_lt]) rfl ⟨by rw [HP.out.1,HP.out.2],?_⟩
   exact Below.alloc (((((((((HF.out.setCell (p := ⟨w.heap.size + 1,0,none⟩) (Nat.le_succ _) _).setCell (p := ⟨w.heap.size + 1,1,none⟩) (Nat.le_succ _) _).setCell (p := ⟨w.heap.size + 1,2,none⟩) (Nat.le_succ _) _).setCell (p := ⟨w.heap.size + 1,3,none⟩) (Nat.le_succ _) _).setCell (p := ⟨w.heap.size + 1,4,none⟩) (Nat.le_succ _) _).setCell (p := ⟨w.heap.size + 1,5,none⟩) (Nat.le_succ _) _).setCell (p := ⟨w.heap.size + 1,6,none⟩) (Nat.le_succ _) _).setCell (p := ⟨w.heap.size + 1,7,none⟩) (Nat.le_succ _) _).setCell (p := ⟨w.heap.size + 1,8,none⟩) (Nat.le_succ _) _) (by simp only [setCell_size]; exact HF.out.size) _
  ·have HP := Lib.hid (outP_long HN.out.2.1 (fun h => ck (HK.out.2.trans h)))
   have hk4 : kc = 4 := HK.out.2.trans HP.out.2.2
   subst hk4
   go_wp2_with fail
   refine bodyPost_ret (v := .tuple #[zP,.int .i64 4]) (by unfold zP; simp [results,Tryz.results34,go_sem,c0,c1,c2,c3,c4,c5,c6,c7,c8,hn2,cell_alloc_lt]) rfl ⟨by rw [HP.out.1,HP.out.2.1],?_⟩
   exact Below.alloc (((((((((HF.out.setCell (p := ⟨w.heap.size + 1,0,none⟩) (Nat.le_succ _) _).setCell (p := ⟨w.heap.size + 1,1,none⟩) (Nat.le_succ _) _).setCell (p := ⟨w.heap.size + 1,2,none⟩) (Nat.le_succ _) _).setCell (p := ⟨w.heap.size + 1,3,none⟩) (Nat.le_succ _) _).setCell (p := ⟨w.heap.size + 1,4,none⟩) (Nat.le_succ _) _).setCell (p := ⟨w.heap.size + 1,5,none⟩) (Nat.le_succ _) _).setCell (p := ⟨w.heap.size + 1,6,none⟩) (Nat.le_succ _) _).setCell (p := ⟨w.heap.size + 1,7,none⟩) (Nat.le_succ _) _).setCell (p := ⟨w.heap.size + 1,8,none⟩) (Nat.le_succ _) _) (by simp only [setCell_size]; exact HF.out.size) _
 ·have hB1 := Lib.hid hb1
  have H1 := Lib.hid (Infinity_any w1)
  clear hb1
  go_wp2_with fail
  refine H1.out.mono ?_
  rintro e w2 ⟨rfl,hb2⟩
  have hbw := hB1.out.trans (hb2.mono hB1.out.size)
  obtain ⟨⟨c0,c1,c2,c3,c4,c5,c6,c7,c8⟩,f0,f1,f2,f3,f4,f5,f6,f7,f8⟩ := HV.out.2.2.1 w2 hbw
  have HF := Lib.hid (HV.out.2.1.trans (hbw.mono HV.out.2.1.size))
  clear hb2 hbw e0 e1 e2 e3
  go_wp2_with fail
  refine bodyPost_ret (v := .tuple #[infP,.int .i64 0]) (by unfold infP; simp [results,Tryz.results34,go_sem,c0,c1,c2,c3,c4,c5,c6,c7,c8]) rfl ⟨?_,?_⟩
  ·have hy0 : y = ⟨0,0⟩ := by
    have := of_decide_eq_true HR.out.symm
    obtain ⟨re,im⟩ := y
    obtain ⟨h1,h2⟩ := this
    simp only at h1 h2
    rw [h1,h2]
   unfold outP outPC
   rw [if_pos hy0,if_pos hy0]
  ·exact (((((((((HF.out.setCell (p := ⟨w.heap.size + 1,0,none⟩) (Nat.le_succ _) _).setCell (p := ⟨w.heap.size + 1,1,none⟩) (Nat.le_succ _) _).setCell (p := ⟨w.heap.size + 1,2,none⟩) (Nat.le_succ _) _).setCell (p := ⟨w.heap.size + 1,3,none⟩) (Nat.le_succ _) _).setCell (p := ⟨w.heap.size + 1,4,none⟩) (Nat.le_succ _) _).setCell (p := ⟨w.heap.size + 1,5,none⟩) (Nat.le_succ _) _).setCell (p := ⟨w.heap.size + 1,6,none⟩) (Nat.le_succ _) _).setCell (p := ⟨w.heap.size + 1,7,none⟩) (Nat.le_succ _) _).setCell (p := ⟨w.heap.size + 1,8,none⟩) (Nat.le_succ _) _)
end Go.Proofs.YteljkhfbgliokaaGreat
namespace Go.Proofs.YteljkhfbgliokaaGreat
open Go.RowKit Tr
def encQ (z : QC) : Value := encG z.re z.im
abbrev Pt := Option QC
def encP : Pt → Value
 | none => infP
 | some z => encPt z
def ptX : Pt → QC
 | none => ⟨1,0⟩
 | some z => z
def ptY : Pt → QC
 | none => ⟨0,0⟩
 | some _ => ⟨1,0⟩
def ShortZ (z : QC) : Prop := ShortF z.re ∧ ShortF z.im
def ShortP : Pt → Prop
 | none => True
 | some z => ShortZ z
theorem RL_short {q : Rat} (h : ShortF q) : RL q 1024 := by
 refine ⟨?_,?_⟩
 ·exact Nat.le_trans (wl_size (numS_strN _)) h.1
 ·exact Nat.le_trans (wl_size (numS_strN _)) h.2
theorem RL_zero : RL 0 1024 := (RL_i64 0 (by decide) (by decide)).mono (by decide)
theorem RL_one : RL 1 1024 := (RL_i64 1 (by decide) (by decide)).mono (by decide)
theorem ZL_short {z : QC} (h : ShortZ z) : ZL z 1024 := ⟨RL_short h.1,RL_short h.2⟩
theorem ZL_ptX {p : Pt} (h : ShortP p) : ZL (ptX p) 1024 := by
 cases p with
 | none => exact ⟨RL_one,RL_zero⟩
 | some z => exact ZL_short h
theorem ZL_ptY (p : Pt) : ZL (ptY p) 1024 := by
 cases p with
 | none => exact ⟨RL_zero,RL_zero⟩
 | some z => exact ⟨RL_one,RL_zero⟩
end Go.Proofs.YteljkhfbgliokaaGreat
namespace Go.Proofs.YteljkhfbgliokaaGreat
open Go.RowKit Tr
structure RawG where
 (n1 n2 n3 n4 : Bool)
 (s1 s2 s3 s4 : ByteArray)
def RawG.val (g : RawG) : Value := .agg #[.bool g.n1,.string g.s1,.bool g.n2,.string g.s2,.bool g.n3,.string g.s3,.bool g.n4,.string g.s4]
def RawG.cells (g : RawG) : List GF := [gx (.bool g.n1),gx (.string g.s1),gx (.bool g.n2),gx (.string g.s2),gx (.bool g.n3),gx (.string g.s3),gx (.bool g.n4),gx (.string g.s4)]
structure RawP where
 i : Bool
 g : RawG
def RawP.val (p : RawP) : Value := .agg #[.bool p.i,.bool p.g.n1,.string p.g.s1,.bool p.g.n2,.string p.g.s2,.bool p.g.n3,.string p.g.s3,.bool p.g.n4,.string p.g.s4]
def RawP.cells (p : RawP) : List GF := gx (.bool p.i) :: p.g.cells
def gA (i : Nat) : List AC := [.sym i,.sym (i + 1),.sym (i + 2),.sym (i + 3),.sym (i + 4),.sym (i + 5),.sym (i + 6),.sym (i + 7)]
def pA (i : Nat) : List AC := [.sym i,.sym (i + 1),.sym (i + 2),.sym (i + 3),.sym (i + 4),.sym (i + 5),.sym (i + 6),.sym (i + 7),.sym (i + 8)]
def cG (z : QC) : List GF := cF z.re ++ cF z.im
def GOk (v : Value) : Prop := ∃ z : QC,v = encQ z ∧ ShortZ z
def POk (v : Value) : Prop := ∃ p : Pt,v = encP p ∧ ShortP p
theorem gOk_iff (g : RawG) : GOk g.val ↔ FracOk (.agg #[.bool g.n1,.string g.s1,.bool g.n2,.string g.s2]) ∧ FracOk (.agg #[.bool g.n3,.string g.s3,.bool g.n4,.string g.s4]) := by
 constructor
 ·rintro ⟨z,e,h1,h2⟩
  unfold RawG.val encQ encG at e
  simp only [Value.agg.injEq,Array.mk.injEq,List.cons.injEq,Value.bool.injEq,Value.string.injEq,and_true] at e
  obtain ⟨e1,e2,e3,e4,e5,e6,e7,e8⟩ := e
  exact ⟨⟨z.re,by unfold encF; rw [e1,e2,e3,e4],h1⟩,⟨z.im,by unfold encF; rw [e5,e6,e7,e8],h2⟩⟩
 ·rintro ⟨⟨a,e,h1⟩,⟨b,f,h2⟩⟩
  obtain ⟨e1,e2,e3,e4⟩ := encF_parts e
  obtain ⟨f1,f2,f3,f4⟩ := encF_parts f
  refine ⟨⟨a,b⟩,?_,h1,h2⟩
  unfold RawG.val encQ encG
  rw [e1,e2,e3,e4,f1,f2,f3,f4]
theorem pOk_num {p : RawP} (h : p.i = false) : POk p.val ↔ GOk p.g.val := by
 constructor
 ·rintro ⟨q,e,hs⟩
  cases q with
  | none =>
   have e' : p.val = infP := e
   unfold RawP.val infP at e'
   simp [h] at e'
  | some z =>
   have e' : p.val = encPt z := e
   refine ⟨z,?_,hs⟩
   unfold RawP.val encPt at e'
   unfold RawG.val encQ encG
   simp only [Value.agg.injEq,Array.mk.injEq,List.cons.injEq,Value.bool.injEq,Value.string.injEq,and_true] at e' ⊢
   exact e'.2
 ·rintro ⟨z,e,hs⟩
  refine ⟨some z,?_,hs⟩
  show p.val = encPt z
  unfold RawP.val encPt
  unfold RawG.val encQ encG at e
  simp only [Value.agg.injEq,Array.mk.injEq,List.cons.injEq,Value.bool.injEq,Value.string.injEq,and_true] at e ⊢
  exact ⟨h,e⟩
theorem pOk_inf {p : RawP} (h : p.i = true) : POk p.val ↔ p.val = infP := by
 constructor
 ·rintro ⟨q,e,hs⟩
  cases q with
  | none => exact e
  | some z =>
   have e' : p.val = encPt z := e
   unfold RawP.val encPt at e'
   simp [h] at e'
 ·intro e; exact ⟨none,e,trivial⟩
set_option maxRecDepth 100000 in
set_option maxHeartbeats 1600000 in
theorem run_eql_rp (w : World) (p q : RawP) (r : Bool) (hr : r = true ↔ p.val = q.val) : (binOp .eql 29 p.val q.val).run Tryz.prog w = .ok (.bool r) w := by
 obtain ⟨i,n1,n2,n3,n4,s1,s2,s3,s4⟩ := p
 obtain ⟨j,m1,m2,m3,m4,t1,t2,t3,t4⟩ := q
 simp only [RawP.val] at hr ⊢
 simp only [Value.agg.injEq,Array.mk.injEq,List.cons.injEq,Value.bool.injEq,Value.string.injEq,and_true] at hr
 go_simp
 simp only [toL_iff]
 cases r
 ·have hn : ¬ (i = j ∧ n1 = m1 ∧ s1 = t1 ∧ n2 = m2 ∧ s2 = t2 ∧ n3 = m3 ∧ s3 = t3 ∧ n4 = m4 ∧ s4 = t4) := fun h => by cases hr.2 h
  repeat' split
  all_goals first
   | rfl
   | (exfalso; apply hn; refine ⟨?_,?_,?_,?_,?_,?_,?_,?_,?_⟩ <;> assumption)
 ·obtain ⟨rfl,rfl,rfl,rfl,rfl,rfl,rfl,rfl,rfl⟩ := hr.1 rfl
  simp
set_option maxRecDepth 100000 in
set_option maxHeartbeats 1600000 in
theorem run_eql_rg (w : World) (p q : RawG) (r : Bool) (hr : r = true ↔ p.val = q.val) : (binOp .eql 27 p.val q.val).run Tryz.prog w = .ok (.bool r) w := by
 obtain ⟨n1,n2,n3,n4,s1,s2,s3,s4⟩ := p
 obtain ⟨m1,m2,m3,m4,t1,t2,t3,t4⟩ := q
 simp only [RawG.val] at hr ⊢
 simp only [Value.agg.injEq,Array.mk.injEq,List.cons.injEq,Value.bool.injEq,Value.string.injEq,and_true] at hr
 go_simp
 simp only [toL_iff]
 cases r
 ·have hn : ¬ (n1 = m1 ∧ s1 = t1 ∧ n2 = m2 ∧ s2 = t2 ∧ n3 = m3 ∧ s3 = t3 ∧ n4 = m4 ∧ s4 = t4) := fun h => by cases hr.2 h
  repeat' split
  all_goals first
   | rfl
   | (exfalso; apply hn; refine ⟨?_,?_,?_,?_,?_,?_,?_,?_⟩ <;> assumption)
 ·obtain ⟨rfl,rfl,rfl,rfl,rfl,rfl,rfl,rfl⟩ := hr.1 rfl
  simp
def rawQ (z : QC) : RawG := ⟨decide (z.re.num < 0),false,decide (z.im.num < 0),false,strN z.re.num.natAbs,strN z.re.den,strN z.im.num.natAbs,strN z.im.den⟩
theorem rawQ_val (z : QC) : (rawQ z).val = encQ z := rfl
def rawPt : Pt → RawP
 | none => ⟨true,⟨false,false,false,false,⟨#[]⟩,⟨#[]⟩,⟨#[]⟩,⟨#[]⟩⟩⟩
 | some z => ⟨false,rawQ z⟩
theorem rawPt_val (p : Pt) : (rawPt p).val = encP p := by cases p <;> rfl
theorem encF_inj' {x y : Rat} (h : encF x = encF y) : x = y := by
 have := h
 unfold encF at h
 simp only [Value.agg.injEq,Array.mk.injEq,List.cons.injEq,Value.bool.injEq,Value.string.injEq,and_true,true_and] at h
 obtain ⟨h1,h2,h3⟩ := h
 have e2 := strN_inj h2
 have e3 := strN_inj h3
 refine Rat.ext ?_ e3
 by_cases hx : x.num < 0 <;> by_cases hy : y.num < 0 <;> simp [hx,hy] at h1 <;> omega
theorem encQ_inj' {x y : QC} (h : encQ x = encQ y) : x = y := by
 unfold encQ encG at h
 simp only [Value.agg.injEq,Array.mk.injEq,List.cons.injEq,Value.bool.injEq,Value.string.injEq,and_true,true_and] at h
 obtain ⟨h1,h2,h3,h4,h5,h6⟩ := h
 have e1 : x.re = y.re := encF_inj' (by unfold encF; rw [h1,h2,h3])
 have e2 : x.im = y.im := encF_inj' (by unfold encF; rw [h4,h5,h6])
 cases x; cases y; simp_all
theorem encP_inj' {p q : Pt} (h : encP p = encP q) : p = q := by
 cases p <;> cases q
 ·rfl
 ·simp [encP,infP,encPt] at h
 ·simp [encP,infP,encPt] at h
 ·rename_i x y
  have : encQ x = encQ y := by
   unfold encQ encG
   simp only [encP,encPt,Value.agg.injEq,Array.mk.injEq,List.cons.injEq,Value.bool.injEq,Value.string.injEq,and_true,true_and] at h ⊢
   exact h
  rw [encQ_inj' this]
def encS (x y : QC) : Value := .agg #[.bool (decide (x.re.num < 0)),.string (strN x.re.num.natAbs),.bool false,.string (strN x.re.den),.bool (decide (x.im.num < 0)),.string (strN x.im.num.natAbs),.bool false,.string (strN x.im.den),
 .bool (decide (y.re.num < 0)),.string (strN y.re.num.natAbs),.bool false,.string (strN y.re.den),.bool (decide (y.im.num < 0)),.string (strN y.im.num.natAbs),.bool false,.string (strN y.im.den)]
def zS : Value := .agg #[.bool false,.string ⟨#[]⟩,.bool false,.string ⟨#[]⟩,.bool false,.string ⟨#[]⟩,.bool false,.string ⟨#[]⟩,.bool false,.string ⟨#[]⟩,.bool false,.string ⟨#[]⟩,.bool false,.string ⟨#[]⟩,.bool false,.string ⟨#[]⟩]
set_option maxHeartbeats 1000000 in
theorem gint (a b : Int) (a1 : -9223372036854775808 ≤ a) (a2 : a < 9223372036854775808) (b1 : -9223372036854775808 ≤ b) (b2 : b < 9223372036854775808) : PureC Tryz.prog 24 [.int .i64 (a),.int .i64 (b)] ((encQ (⟨(a : Rat),(b : Rat)⟩))) := by
  exact ev_pure (hp := false) (L := [gx (.int .i64 (a))] ++ [gx (.int .i64 (b))] ++ cG (⟨(a : Rat),(b : Rat)⟩)) tys_ok mixed
    [gp 46 [.c (.sym 0)] (.r (.row [.sym 2,.sym 3,.lit (.bool false),.sym 4])) (enters_of Tryz.func46 (by kernel_rfl)) (fint a a1 a2) rfl rfl,
     gp 46 [.c (.sym 1)] (.r (.row [.sym 5,.sym 6,.lit (.bool false),.sym 7])) (enters_of Tryz.func46 (by kernel_rfl)) (fint b b1 b2) rfl rfl]
    [] []
    Tryz.func24 100 [.c (.sym 0),.c (.sym 1)] (.r (.row [.sym 2,.sym 3,.lit (.bool false),.sym 4,.sym 5,.sym 6,.lit (.bool false),.sym 7])) (by kernel_rfl) rfl rfl
theorem gzero (z : QC) (r : Bool) (hr : r = true ↔ z = ⟨0,0⟩) : PureC Tryz.prog 25 [encQ z] (.bool r) := by
  have hs : ∀ q : Rat,q.num.sign = 0 ↔ q = 0 := fun q => by rw [Int.sign_eq_zero_iff_zero,Rat.num_eq_zero]
  by_cases h1 : z.re = 0
  · exact ev_pure (hp := false) (L := cG z ++ [gx (.int .i64 z.re.num.sign),gx (.int .i64 z.im.num.sign),gx (.bool r)]) tys_ok mixed
      [gp 47 [.row [.sym 0,.sym 1,.lit (.bool false),.sym 2]] (.r (.c (.sym 6))) (enters_of Tryz.func47 (by kernel_rfl)) (fsign z.re) rfl rfl,
       gp 47 [.row [.sym 3,.sym 4,.lit (.bool false),.sym 5]] (.r (.c (.sym 7))) (enters_of Tryz.func47 (by kernel_rfl)) (fsign z.im) rfl rfl]
      [gbInt .eql 3 .i64 (.sym 6) (.lit (.int .i64 0)) _ _ true (by simp only [cmpB]; rw [(hs _).2 h1]; rfl) rfl rfl,
       gb .eql 3 (.c (.sym 7)) (.c (.lit (.int .i64 0))) (.sym 8) (int_cmp .eql _ .i64 _ _ r (by
         simp only [cmpB]; congr 1; rw [Bool.eq_iff_iff,hr,beq_iff_eq,hs]; cases z; simp at h1; subst h1; simp)) rfl rfl rfl] []
      Tryz.func25 100 [.row [.sym 0,.sym 1,.lit (.bool false),.sym 2,.sym 3,.sym 4,.lit (.bool false),.sym 5]] (.r (.c (.sym 8))) (by kernel_rfl) rfl rfl
  · have hr' : r = false := by cases r; rfl; exact absurd (by rw [hr.1 rfl]) h1
    subst hr'
    exact ev_pure (hp := false) (L := cG z ++ [gx (.int .i64 z.re.num.sign)]) tys_ok mixed
      [gp 47 [.row [.sym 0,.sym 1,.lit (.bool false),.sym 2]] (.r (.c (.sym 6))) (enters_of Tryz.func47 (by kernel_rfl)) (fsign z.re) rfl rfl]
      [gbInt .eql 3 .i64 (.sym 6) (.lit (.int .i64 0)) _ _ false (by simp only [cmpB]; congr 1; rw [beq_eq_false_iff_ne]; exact fun h => h1 ((hs _).1 h)) rfl rfl] []
      Tryz.func25 100 [.row [.sym 0,.sym 1,.lit (.bool false),.sym 2,.sym 3,.sym 4,.lit (.bool false),.sym 5]] (.r (.c (.lit (.bool false)))) (by kernel_rfl) rfl rfl
theorem gmay (g : RawG) (r : Bool) (hr : r = true ↔ GOk g.val) : PureC Tryz.prog 23 [g.val] (.bool r) := by
  rw [gOk_iff] at hr
  obtain ⟨a,ha⟩ : ∃ a : Bool,a = true ↔ FracOk (.agg #[.bool g.n1,.string g.s1,.bool g.n2,.string g.s2]) := by
    by_cases h : FracOk (.agg #[.bool g.n1,.string g.s1,.bool g.n2,.string g.s2])
    · exact ⟨true,by simp [h]⟩
    · exact ⟨false,by simp [h]⟩
  have h1 := fmay g.n1 g.n2 g.s1 g.s2 a ha
  cases a
  · have hr' : r = false := by cases r; rfl; have := ha.2 (hr.1 rfl).1; cases this
    subst hr'
    exact ev_pure (hp := false) (L := g.cells) tys_ok mixed
      [gp 45 [.row (zA 0 ++ zA 2)] (.r (.c (.lit (.bool false)))) (enters_of Tryz.func45 (by kernel_rfl)) h1 rfl rfl] [] []
      Tryz.func23 100 [.row (gA 0)] (.r (.c (.lit (.bool false)))) (by kernel_rfl) rfl rfl
  · have h2 := fmay g.n3 g.n4 g.s3 g.s4 r (by rw [hr]; exact ⟨fun h => h.2,fun h => ⟨ha.1 rfl,h⟩⟩)
    exact ev_pure (hp := false) (L := g.cells ++ [gx (.bool r)]) tys_ok mixed
      [gp 45 [.row (zA 0 ++ zA 2)] (.r (.c (.lit (.bool true)))) (enters_of Tryz.func45 (by kernel_rfl)) h1 rfl rfl,
       gp 45 [.row (zA 4 ++ zA 6)] (.r (.c (.sym 8))) (enters_of Tryz.func45 (by kernel_rfl)) h2 rfl rfl] [] []
      Tryz.func23 100 [.row (gA 0)] (.r (.c (.sym 8))) (by kernel_rfl) rfl rfl
theorem gfits (z : QC) (r : Bool) (hr : r = true ↔ ShortZ z) : PureC Tryz.prog 42 [encQ z] (.bool r) := by
  have h1 := ffits (decide (z.re.num < 0)) false (strN z.re.num.natAbs) (strN z.re.den) _ rfl
  have h2 := ffits (decide (z.im.num < 0)) false (strN z.im.num.natAbs) (strN z.im.den) _ rfl
  by_cases ha : ShortF z.re
  · rw [show decide ((strN z.re.num.natAbs).size ≤ 1024 ∧ (strN z.re.den).size ≤ 1024) = true from decide_eq_true ha] at h1
    rw [show decide ((strN z.im.num.natAbs).size ≤ 1024 ∧ (strN z.im.den).size ≤ 1024) = r by rw [Bool.eq_iff_iff,decide_eq_true_iff,hr]; exact ⟨fun h => ⟨ha,h⟩,fun h => h.2⟩] at h2
    exact ev_pure (hp := false) (L := cG z ++ [gx (.bool r)]) tys_ok mixed
      [gp 67 [.row [.sym 0,.sym 1,.lit (.bool false),.sym 2]] (.r (.c (.lit (.bool true)))) (enters_of Tryz.func67 (by kernel_rfl)) h1 rfl rfl,
       gp 67 [.row [.sym 3,.sym 4,.lit (.bool false),.sym 5]] (.r (.c (.sym 6))) (enters_of Tryz.func67 (by kernel_rfl)) h2 rfl rfl] [] []
      Tryz.func42 100 [.row [.sym 0,.sym 1,.lit (.bool false),.sym 2,.sym 3,.sym 4,.lit (.bool false),.sym 5]] (.r (.c (.sym 6))) (by kernel_rfl) rfl rfl
  · rw [show decide ((strN z.re.num.natAbs).size ≤ 1024 ∧ (strN z.re.den).size ≤ 1024) = false from decide_eq_false ha] at h1
    have hr' : r = false := by cases r; rfl; exact absurd (hr.1 rfl).1 ha
    subst hr'
    exact ev_pure (hp := false) (L := cG z) tys_ok mixed
      [gp 67 [.row [.sym 0,.sym 1,.lit (.bool false),.sym 2]] (.r (.c (.lit (.bool false)))) (enters_of Tryz.func67 (by kernel_rfl)) h1 rfl rfl] [] []
      Tryz.func42 100 [.row [.sym 0,.sym 1,.lit (.bool false),.sym 2,.sym 3,.sym 4,.lit (.bool false),.sym 5]] (.r (.c (.lit (.bool false)))) (by kernel_rfl) rfl rfl
end Go.Proofs.YteljkhfbgliokaaGreat
namespace Tr
open Go Go.RowKit Go.Proofs.YteljkhfbgliokaaGreat
theorem ZL.r {z : QC} {k : Nat} (h : ZL z k) : RL z.re k := h.1
theorem ZL.i {z : QC} {k : Nat} (h : ZL z k) : RL z.im k := h.2
end Tr
namespace Go.Proofs.YteljkhfbgliokaaGreat
open Go.RowKit Tr
set_option maxHeartbeats 1000000 in
theorem gplus (x y : QC) (hx : ZL x 134217728) (hy : ZL y 134217728) : PureC Tryz.prog 40 [encQ (x),encQ (y)] ((encQ (x + y))) := by
  exact ev_pure (hp := false) (L := cG (x) ++ cG (y) ++ cG (x + y)) tys_ok mixed
    [gp 61 [.row [.sym 0,.sym 1,.lit (.bool false),.sym 2],.row [.sym 6,.sym 7,.lit (.bool false),.sym 8]] (.r (.row [.sym 12,.sym 13,.lit (.bool false),.sym 14])) (enters_of Tryz.func61 (by kernel_rfl)) (fplus _ _ hx.1 hy.1) rfl rfl,
     gp 61 [.row [.sym 3,.sym 4,.lit (.bool false),.sym 5],.row [.sym 9,.sym 10,.lit (.bool false),.sym 11]] (.r (.row [.sym 15,.sym 16,.lit (.bool false),.sym 17])) (enters_of Tryz.func61 (by kernel_rfl)) (fplus _ _ hx.2 hy.2) rfl rfl]
    [] []
    Tryz.func40 100 [.row [.sym 0,.sym 1,.lit (.bool false),.sym 2,.sym 3,.sym 4,.lit (.bool false),.sym 5],.row [.sym 6,.sym 7,.lit (.bool false),.sym 8,.sym 9,.sym 10,.lit (.bool false),.sym 11]] (.r (.row [.sym 12,.sym 13,.lit (.bool false),.sym 14,.sym 15,.sym 16,.lit (.bool false),.sym 17])) (by kernel_rfl) rfl rfl
theorem gneg (z : QC) : PureC Tryz.prog 97 [encQ z] (encQ ⟨-z.re,-z.im⟩) :=
  ev_pure (hp := false) (L := cG z ++ cG ⟨-z.re,-z.im⟩) tys_ok mixed
    [gp 93 [.row [.sym 0,.sym 1,.lit (.bool false),.sym 2]] (.r (.row [.sym 6,.sym 7,.lit (.bool false),.sym 8])) (enters_of Tryz.func93 (by kernel_rfl)) (fneg z.re) rfl rfl,
     gp 93 [.row [.sym 3,.sym 4,.lit (.bool false),.sym 5]] (.r (.row [.sym 9,.sym 10,.lit (.bool false),.sym 11])) (enters_of Tryz.func93 (by kernel_rfl)) (fneg z.im) rfl rfl] [] []
    Tryz.func97 100 [.row [.sym 0,.sym 1,.lit (.bool false),.sym 2,.sym 3,.sym 4,.lit (.bool false),.sym 5]] (.r (.row [.sym 6,.sym 7,.lit (.bool false),.sym 8,.sym 9,.sym 10,.lit (.bool false),.sym 11])) (by kernel_rfl) rfl rfl
theorem gconj (z : QC) : PureC Tryz.prog 64 [encQ z] (encQ ⟨z.re,-z.im⟩) :=
 ev_pure (hp := false) (L := cG z ++ cF (-z.im)) tys_ok mixed
  [gp 93 [.row [.sym 3,.sym 4,.lit (.bool false),.sym 5]] (.r (.row [.sym 6,.sym 7,.lit (.bool false),.sym 8])) (enters_of Tryz.func93 (by kernel_rfl)) (fneg z.im) rfl rfl] [] []
  Tryz.func64 100 [.row [.sym 0,.sym 1,.lit (.bool false),.sym 2,.sym 3,.sym 4,.lit (.bool false),.sym 5]] (.r (.row [.sym 0,.sym 1,.lit (.bool false),.sym 2,.sym 6,.sym 7,.lit (.bool false),.sym 8])) (by kernel_rfl) rfl rfl
theorem sub_plus (x y : QC) : x + ⟨-y.re,-y.im⟩ = x - y := by
 show (⟨x.re + -y.re,x.im + -y.im⟩ : QC) = ⟨x.re - y.re,x.im - y.im⟩
 rw [Rat.sub_eq_add_neg,Rat.sub_eq_add_neg]
theorem ZL_negc {y : QC} {k : Nat} (h : ZL y k) : ZL ⟨-y.re,-y.im⟩ k := ⟨RL_neg h.1,RL_neg h.2⟩
theorem ZL_conjc {y : QC} {k : Nat} (h : ZL y k) : ZL ⟨y.re,-y.im⟩ k := ⟨h.1,RL_neg h.2⟩
set_option maxHeartbeats 1000000 in
theorem gminus (x y : QC) (hx : ZL x 134217728) (hy : ZL y 134217728) : PureC Tryz.prog 62 [encQ (x),encQ (y)] ((encQ (x - y))) := by
  have hp := gplus x ⟨-y.re,-y.im⟩ hx (ZL_negc hy)
  rw [sub_plus] at hp
  exact ev_pure (hp := false) (L := cG (x) ++ cG (y) ++ cG (⟨-y.re,-y.im⟩) ++ cG (x - y)) tys_ok mixed
    [gp 97 [.row [.sym 6,.sym 7,.lit (.bool false),.sym 8,.sym 9,.sym 10,.lit (.bool false),.sym 11]] (.r (.row [.sym 12,.sym 13,.lit (.bool false),.sym 14,.sym 15,.sym 16,.lit (.bool false),.sym 17])) (enters_of Tryz.func97 (by kernel_rfl)) (gneg y) rfl rfl,
     gp 40 [.row [.sym 0,.sym 1,.lit (.bool false),.sym 2,.sym 3,.sym 4,.lit (.bool false),.sym 5],.row [.sym 12,.sym 13,.lit (.bool false),.sym 14,.sym 15,.sym 16,.lit (.bool false),.sym 17]] (.r (.row [.sym 18,.sym 19,.lit (.bool false),.sym 20,.sym 21,.sym 22,.lit (.bool false),.sym 23])) (enters_of Tryz.func40 (by kernel_rfl)) (hp) rfl rfl]
    [] []
    Tryz.func62 100 [.row [.sym 0,.sym 1,.lit (.bool false),.sym 2,.sym 3,.sym 4,.lit (.bool false),.sym 5],.row [.sym 6,.sym 7,.lit (.bool false),.sym 8,.sym 9,.sym 10,.lit (.bool false),.sym 11]] (.r (.row [.sym 18,.sym 19,.lit (.bool false),.sym 20,.sym 21,.sym 22,.lit (.bool false),.sym 23])) (by kernel_rfl) rfl rfl
set_option maxHeartbeats 1000000 in
theorem gtimes (x y : QC) (hx : ZL x 33554432) (hy : ZL y 33554432) : PureC Tryz.prog 38 [encQ (x),encQ (y)] ((encQ (x * y))) := by
  exact ev_pure (hp := false) (L := cG (x) ++ cG (y) ++ cF (x.re * y.re) ++ cF (x.im * y.im) ++ cF (x.re * y.im) ++ cF (x.im * y.re) ++ cG (x * y)) tys_ok mixed
    [gp 60 [.row [.sym 0,.sym 1,.lit (.bool false),.sym 2],.row [.sym 6,.sym 7,.lit (.bool false),.sym 8]] (.r (.row [.sym 12,.sym 13,.lit (.bool false),.sym 14])) (enters_of Tryz.func60 (by kernel_rfl)) (ftimes _ _ (hx.1.mono (by decide)) (hy.1.mono (by decide))) rfl rfl,
     gp 60 [.row [.sym 3,.sym 4,.lit (.bool false),.sym 5],.row [.sym 9,.sym 10,.lit (.bool false),.sym 11]] (.r (.row [.sym 15,.sym 16,.lit (.bool false),.sym 17])) (enters_of Tryz.func60 (by kernel_rfl)) (ftimes _ _ (hx.2.mono (by decide)) (hy.2.mono (by decide))) rfl rfl,
     gp 59 [.row [.sym 12,.sym 13,.lit (.bool false),.sym 14],.row [.sym 15,.sym 16,.lit (.bool false),.sym 17]] (.r (.row [.sym 24,.sym 25,.lit (.bool false),.sym 26])) (enters_of Tryz.func59 (by kernel_rfl)) (fminus _ _ ((RL_mul hx.1 hy.1).mono (by decide)) ((RL_mul hx.2 hy.2).mono (by decide))) rfl rfl,
     gp 60 [.row [.sym 0,.sym 1,.lit (.bool false),.sym 2],.row [.sym 9,.sym 10,.lit (.bool false),.sym 11]] (.r (.row [.sym 18,.sym 19,.lit (.bool false),.sym 20])) (enters_of Tryz.func60 (by kernel_rfl)) (ftimes _ _ (hx.1.mono (by decide)) (hy.2.mono (by decide))) rfl rfl,
     gp 60 [.row [.sym 3,.sym 4,.lit (.bool false),.sym 5],.row [.sym 6,.sym 7,.lit (.bool false),.sym 8]] (.r (.row [.sym 21,.sym 22,.lit (.bool false),.sym 23])) (enters_of Tryz.func60 (by kernel_rfl)) (ftimes _ _ (hx.2.mono (by decide)) (hy.1.mono (by decide))) rfl rfl,
     gp 61 [.row [.sym 18,.sym 19,.lit (.bool false),.sym 20],.row [.sym 21,.sym 22,.lit (.bool false),.sym 23]] (.r (.row [.sym 27,.sym 28,.lit (.bool false),.sym 29])) (enters_of Tryz.func61 (by kernel_rfl)) (fplus _ _ ((RL_mul hx.1 hy.2).mono (by decide)) ((RL_mul hx.2 hy.1).mono (by decide))) rfl rfl]
    [] []
    Tryz.func38 100 [.row [.sym 0,.sym 1,.lit (.bool false),.sym 2,.sym 3,.sym 4,.lit (.bool false),.sym 5],.row [.sym 6,.sym 7,.lit (.bool false),.sym 8,.sym 9,.sym 10,.lit (.bool false),.sym 11]] (.r (.row [.sym 24,.sym 25,.lit (.bool false),.sym 26,.sym 27,.sym 28,.lit (.bool false),.sym 29])) (by kernel_rfl) rfl rfl
set_option maxHeartbeats 1000000 in
theorem gscale (x : QC) (y : Rat) (hx : ZL x 134217728) (hy : RL y 134217728) : PureC Tryz.prog 63 [encQ (x),encF (y)] ((encQ (⟨x.re * y,x.im * y⟩))) := by
  exact ev_pure (hp := false) (L := cG (x) ++ cF (y) ++ cG (⟨x.re * y,x.im * y⟩)) tys_ok mixed
    [gp 60 [.row [.sym 0,.sym 1,.lit (.bool false),.sym 2],.row [.sym 6,.sym 7,.lit (.bool false),.sym 8]] (.r (.row [.sym 9,.sym 10,.lit (.bool false),.sym 11])) (enters_of Tryz.func60 (by kernel_rfl)) (ftimes _ _ hx.1 hy) rfl rfl,
     gp 60 [.row [.sym 3,.sym 4,.lit (.bool false),.sym 5],.row [.sym 6,.sym 7,.lit (.bool false),.sym 8]] (.r (.row [.sym 12,.sym 13,.lit (.bool false),.sym 14])) (enters_of Tryz.func60 (by kernel_rfl)) (ftimes _ _ hx.2 hy) rfl rfl]
    [] []
    Tryz.func63 100 [.row [.sym 0,.sym 1,.lit (.bool false),.sym 2,.sym 3,.sym 4,.lit (.bool false),.sym 5],.row [.sym 6,.sym 7,.lit (.bool false),.sym 8]] (.r (.row [.sym 9,.sym 10,.lit (.bool false),.sym 11,.sym 12,.sym 13,.lit (.bool false),.sym 14])) (by kernel_rfl) rfl rfl
set_option maxHeartbeats 1000000 in
theorem gdot (x y : QC) (hx : ZL x 33554432) (hy : ZL y 33554432) : PureC Tryz.prog 98 [encQ (x),encQ (y)] ((encF (x.re * y.re + x.im * y.im))) := by
  exact ev_pure (hp := false) (L := cG (x) ++ cG (y) ++ cF (x.re * y.re) ++ cF (x.im * y.im) ++ cF (x.re * y.re + x.im * y.im)) tys_ok mixed
    [gp 60 [.row [.sym 0,.sym 1,.lit (.bool false),.sym 2],.row [.sym 6,.sym 7,.lit (.bool false),.sym 8]] (.r (.row [.sym 12,.sym 13,.lit (.bool false),.sym 14])) (enters_of Tryz.func60 (by kernel_rfl)) (ftimes _ _ (hx.1.mono (by decide)) (hy.1.mono (by decide))) rfl rfl,
     gp 60 [.row [.sym 3,.sym 4,.lit (.bool false),.sym 5],.row [.sym 9,.sym 10,.lit (.bool false),.sym 11]] (.r (.row [.sym 15,.sym 16,.lit (.bool false),.sym 17])) (enters_of Tryz.func60 (by kernel_rfl)) (ftimes _ _ (hx.2.mono (by decide)) (hy.2.mono (by decide))) rfl rfl,
     gp 61 [.row [.sym 12,.sym 13,.lit (.bool false),.sym 14],.row [.sym 15,.sym 16,.lit (.bool false),.sym 17]] (.r (.row [.sym 18,.sym 19,.lit (.bool false),.sym 20])) (enters_of Tryz.func61 (by kernel_rfl)) (fplus _ _ ((RL_mul hx.1 hy.1).mono (by decide)) ((RL_mul hx.2 hy.2).mono (by decide))) rfl rfl]
    [] []
    Tryz.func98 100 [.row [.sym 0,.sym 1,.lit (.bool false),.sym 2,.sym 3,.sym 4,.lit (.bool false),.sym 5],.row [.sym 6,.sym 7,.lit (.bool false),.sym 8,.sym 9,.sym 10,.lit (.bool false),.sym 11]] (.r (.row [.sym 18,.sym 19,.lit (.bool false),.sym 20])) (by kernel_rfl) rfl rfl
set_option maxHeartbeats 1000000 in
theorem gnorm (x : QC) (hx : ZL x 33554432) : PureC Tryz.prog 66 [encQ (x)] ((encF (x.re * x.re + x.im * x.im))) := by
 exact ev_pure (hp := false) (L := cG (x) ++ cF (x.re * x.re + x.im * x.im)) tys_ok mixed
  [gp 98 [.row [.sym 0,.sym 1,.lit (.bool false),.sym 2,.sym 3,.sym 4,.lit (.bool false),.sym 5],.row [.sym 0,.sym 1,.lit (.bool false),.sym 2,.sym 3,.sym 4,.lit (.bool false),.sym 5]] (.r (.row [.sym 6,.sym 7,.lit (.bool false),.sym 8])) (enters_of Tryz.func98 (by kernel_rfl)) (gdot x x hx hx) rfl rfl]
  [] []
  Tryz.func66 100 [.row [.sym 0,.sym 1,.lit (.bool false),.sym 2,.sym 3,.sym 4,.lit (.bool false),.sym 5]] (.r (.row [.sym 6,.sym 7,.lit (.bool false),.sym 8])) (by kernel_rfl) rfl rfl
set_option maxHeartbeats 1000000 in
theorem gover (x y : QC) (hx : ZL x 6000000) (hy : ZL y 6000000) (h0 : y ≠ ⟨0,0⟩) : PureC Tryz.prog 41 [encQ x,encQ y] (encQ (x / y)) := by
  obtain ⟨c,hcd⟩ : ∃ c : QC,c = ⟨y.re,-y.im⟩ := ⟨_,rfl⟩
  obtain ⟨t,ht⟩ : ∃ t : QC,t = x * c := ⟨_,rfl⟩
  obtain ⟨n,hn⟩ : ∃ n : Rat,n = y.re * y.re + y.im * y.im := ⟨_,rfl⟩
  have hcl : ZL c 6000000 := by rw [hcd]; exact ZL_conjc hy
  have hnl : RL n 24000004 := by rw [hn]; exact (RL_add (RL_mul hy.1 hy.1) (RL_mul hy.2 hy.2)).mono (by decide)
  have hn0 : n ≠ 0 := fun h => h0 (by rw [hn] at h; obtain ⟨h1,h2⟩ := norm_zero.1 h; cases y; simp at h1 h2; rw [h1,h2])
  have htl : ZL t 24000004 := by rw [ht]; exact (ZL_mul hx hcl).mono (by decide)
  have hq : x / y = ⟨t.re * n⁻¹,t.im * n⁻¹⟩ := by rw [ht,hn,hcd]; rfl
  have hc := gconj y
  rw [← hcd] at hc
  have h2 := gtimes x c (hx.mono (by decide)) (hcl.mono (by decide))
  rw [← ht] at h2
  have h3 := gnorm y (hy.mono (by decide))
  rw [← hn] at h3
  have h1 := fint 1 (by decide) (by decide)
  rw [show ((1 : Int) : Rat) = 1 from rfl] at h1
  have h4 := fover 1 n (RL_one.mono (by decide)) (hnl.mono (by decide)) hn0
  rw [show (1 : Rat) / n = n⁻¹ by rw [Rat.div_def]; exact Rat.one_mul _] at h4
  have hs := gscale t n⁻¹ (htl.mono (by decide)) ((RL_inv hn0 hnl).mono (by decide))
  rw [hq]
  clear hq ht hn hcd
  exact ev_pure (hp := false) (L := cG (x) ++ cG (y) ++ cG (c) ++ cG (t) ++ cF (1) ++ cF (n) ++ cF (n⁻¹) ++ cG (⟨t.re * n⁻¹,t.im * n⁻¹⟩)) tys_ok mixed
    [gp 64 [.row [.sym 6,.sym 7,.lit (.bool false),.sym 8,.sym 9,.sym 10,.lit (.bool false),.sym 11]] (.r (.row [.sym 12,.sym 13,.lit (.bool false),.sym 14,.sym 15,.sym 16,.lit (.bool false),.sym 17])) (enters_of Tryz.func64 (by kernel_rfl)) (hc) rfl rfl,
     gp 38 [.row [.sym 0,.sym 1,.lit (.bool false),.sym 2,.sym 3,.sym 4,.lit (.bool false),.sym 5],.row [.sym 12,.sym 13,.lit (.bool false),.sym 14,.sym 15,.sym 16,.lit (.bool false),.sym 17]] (.r (.row [.sym 18,.sym 19,.lit (.bool false),.sym 20,.sym 21,.sym 22,.lit (.bool false),.sym 23])) (enters_of Tryz.func38 (by kernel_rfl)) (h2) rfl rfl,
     gp 46 [.c (.lit (.int .i64 1))] (.r (.row [.sym 24,.sym 25,.lit (.bool false),.sym 26])) (enters_of Tryz.func46 (by kernel_rfl)) (h1) rfl rfl,
     gp 66 [.row [.sym 6,.sym 7,.lit (.bool false),.sym 8,.sym 9,.sym 10,.lit (.bool false),.sym 11]] (.r (.row [.sym 27,.sym 28,.lit (.bool false),.sym 29])) (enters_of Tryz.func66 (by kernel_rfl)) (h3) rfl rfl,
     gp 65 [.row [.sym 24,.sym 25,.lit (.bool false),.sym 26],.row [.sym 27,.sym 28,.lit (.bool false),.sym 29]] (.r (.row [.sym 30,.sym 31,.lit (.bool false),.sym 32])) (enters_of Tryz.func65 (by kernel_rfl)) (h4) rfl rfl,
     gp 63 [.row [.sym 18,.sym 19,.lit (.bool false),.sym 20,.sym 21,.sym 22,.lit (.bool false),.sym 23],.row [.sym 30,.sym 31,.lit (.bool false),.sym 32]] (.r (.row [.sym 33,.sym 34,.lit (.bool false),.sym 35,.sym 36,.sym 37,.lit (.bool false),.sym 38])) (enters_of Tryz.func63 (by kernel_rfl)) (hs) rfl rfl]
    [] []
    Tryz.func41 100 [.row [.sym 0,.sym 1,.lit (.bool false),.sym 2,.sym 3,.sym 4,.lit (.bool false),.sym 5],.row [.sym 6,.sym 7,.lit (.bool false),.sym 8,.sym 9,.sym 10,.lit (.bool false),.sym 11]] (.r (.row [.sym 33,.sym 34,.lit (.bool false),.sym 35,.sym 36,.sym 37,.lit (.bool false),.sym 38])) (by kernel_rfl) rfl rfl
end Go.Proofs.YteljkhfbgliokaaGreat
