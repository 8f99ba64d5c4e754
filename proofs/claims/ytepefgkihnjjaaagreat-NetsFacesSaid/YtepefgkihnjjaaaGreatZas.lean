/- Laws for the walk. -/
import Derived.Test.YtepefgkihnjjaaaGreatZzz
import Derived.Test.YtepefgkihnjjaaaGreatZaq
import Derived.Test.YtepefgkihnjjaaaGreatZar
set_option linter.unusedVariables false
namespace Go.Proofs.YtepefgkihnjjaaaGreat
open Go.RowKit Tr
set_option maxRecDepth 100000 in
set_option maxHeartbeats 1600000 in
theorem cbox (w : World) (a0 a1 a2 a3 a4 a5 a6 a7 a8 b0 b1 b2 b3 b4 b5 b6 b7 b8 c0 c1 c2 c3 c4 c5 c6 c7 c8 d0 d1 d2 d3 d4 d5 d6 d7 e0 e1 e2 e3 e4 e5 e6 e7 : Value) :
  ∃ W,Hid (W = (((((w.alloc (.cells #[a0,a1,a2,a3,a4,a5,a6,a7,a8] 29)).alloc (.cells #[b0,b1,b2,b3,b4,b5,b6,b7,b8] 29)).alloc (.cells #[c0,c1,c2,c3,c4,c5,c6,c7,c8] 29)).alloc (.cells #[d0,d1,d2,d3,d4,d5,d6,d7] 27)).alloc (.cells #[e0,e1,e2,e3,e4,e5,e6,e7] 27)).alloc (.cells #[.bool false,.bool false,.string ⟨#[]⟩,.bool false,.string ⟨#[]⟩,.bool false,.string ⟨#[]⟩,.bool false,.string ⟨#[]⟩] 29) ∧ Below w.heap.size w W ∧ W.heap.size = w.heap.size + 6 ∧ ∀ w1,Below W.heap.size W w1 → (w1.cell? ⟨w.heap.size,0,none⟩ = some (a0) ∧ w1.cell? ⟨w.heap.size,1,none⟩ = some (a1) ∧ w1.cell? ⟨w.heap.size,2,none⟩ = some (a2) ∧ w1.cell? ⟨w.heap.size,3,none⟩ = some (a3) ∧ w1.cell? ⟨w.heap.size,4,none⟩ = some (a4) ∧ w1.cell? ⟨w.heap.size,5,none⟩ = some (a5) ∧ w1.cell? ⟨w.heap.size,6,none⟩ = some (a6) ∧ w1.cell? ⟨w.heap.size,7,none⟩ = some (a7) ∧ w1.cell? ⟨w.heap.size,8,none⟩ = some (a8)) ∧
   (w1.cell? ⟨w.heap.size + 1,0,none⟩ = some (b0) ∧ w1.cell? ⟨w.heap.size + 1,1,none⟩ = some (b1) ∧ w1.cell? ⟨w.heap.size + 1,2,none⟩ = some (b2) ∧ w1.cell? ⟨w.heap.size + 1,3,none⟩ = some (b3) ∧ w1.cell? ⟨w.heap.size + 1,4,none⟩ = some (b4) ∧ w1.cell? ⟨w.heap.size + 1,5,none⟩ = some (b5) ∧ w1.cell? ⟨w.heap.size + 1,6,none⟩ = some (b6) ∧ w1.cell? ⟨w.heap.size + 1,7,none⟩ = some (b7) ∧ w1.cell? ⟨w.heap.size + 1,8,none⟩ = some (b8)) ∧
   (w1.cell? ⟨w.heap.size + 2,0,none⟩ = some (c0) ∧ w1.cell? ⟨w.heap.size + 2,1,none⟩ = some (c1) ∧ w1.cell? ⟨w.heap.size + 2,2,none⟩ = some (c2) ∧ w1.cell? ⟨w.heap.size + 2,3,none⟩ = some (c3) ∧ w1.cell? ⟨w.heap.size + 2,4,none⟩ = some (c4) ∧ w1.cell? ⟨w.heap.size + 2,5,none⟩ = some (c5) ∧ w1.cell? ⟨w.heap.size + 2,6,none⟩ = some (c6) ∧ w1.cell? ⟨w.heap.size + 2,7,none⟩ = some (c7) ∧ w1.cell? ⟨w.heap.size + 2,8,none⟩ = some (c8)) ∧
   (w1.cell? ⟨w.heap.size + 3,0,none⟩ = some (d0) ∧ w1.cell? ⟨w.heap.size + 3,1,none⟩ = some (d1) ∧ w1.cell? ⟨w.heap.size + 3,2,none⟩ = some (d2) ∧ w1.cell? ⟨w.heap.size + 3,3,none⟩ = some (d3) ∧ w1.cell? ⟨w.heap.size + 3,4,none⟩ = some (d4) ∧ w1.cell? ⟨w.heap.size + 3,5,none⟩ = some (d5) ∧ w1.cell? ⟨w.heap.size + 3,6,none⟩ = some (d6) ∧ w1.cell? ⟨w.heap.size + 3,7,none⟩ = some (d7)) ∧
   (w1.cell? ⟨w.heap.size + 4,0,none⟩ = some (e0) ∧ w1.cell? ⟨w.heap.size + 4,1,none⟩ = some (e1) ∧ w1.cell? ⟨w.heap.size + 4,2,none⟩ = some (e2) ∧ w1.cell? ⟨w.heap.size + 4,3,none⟩ = some (e3) ∧ w1.cell? ⟨w.heap.size + 4,4,none⟩ = some (e4) ∧ w1.cell? ⟨w.heap.size + 4,5,none⟩ = some (e5) ∧ w1.cell? ⟨w.heap.size + 4,6,none⟩ = some (e6) ∧ w1.cell? ⟨w.heap.size + 4,7,none⟩ = some (e7)) ∧
   (w1.cell? ⟨w.heap.size + 5,0,none⟩ = some (.bool false) ∧ w1.cell? ⟨w.heap.size + 5,1,none⟩ = some (.bool false) ∧ w1.cell? ⟨w.heap.size + 5,2,none⟩ = some (.string ⟨#[]⟩) ∧ w1.cell? ⟨w.heap.size + 5,3,none⟩ = some (.bool false) ∧ w1.cell? ⟨w.heap.size + 5,4,none⟩ = some (.string ⟨#[]⟩) ∧ w1.cell? ⟨w.heap.size + 5,5,none⟩ = some (.bool false) ∧ w1.cell? ⟨w.heap.size + 5,6,none⟩ = some (.string ⟨#[]⟩) ∧ w1.cell? ⟨w.heap.size + 5,7,none⟩ = some (.bool false) ∧ w1.cell? ⟨w.heap.size + 5,8,none⟩ = some (.string ⟨#[]⟩) ∧ w1.frozen? ⟨w.heap.size + 5,0,none⟩ = false ∧ w1.frozen? ⟨w.heap.size + 5,1,none⟩ = false ∧ w1.frozen? ⟨w.heap.size + 5,2,none⟩ = false ∧ w1.frozen? ⟨w.heap.size + 5,3,none⟩ = false ∧ w1.frozen? ⟨w.heap.size + 5,4,none⟩ = false ∧ w1.frozen? ⟨w.heap.size + 5,5,none⟩ = false ∧ w1.frozen? ⟨w.heap.size + 5,6,none⟩ = false ∧ w1.frozen? ⟨w.heap.size + 5,7,none⟩ = false ∧ w1.frozen? ⟨w.heap.size + 5,8,none⟩ = false)) := by
 obtain ⟨w1,hw1⟩ : ∃ w1,w1 = w.alloc (.cells #[a0,a1,a2,a3,a4,a5,a6,a7,a8] 29) := ⟨_,rfl⟩
 have hz1 : w1.heap.size = w.heap.size + 1 := by rw [hw1]; simp
 have hb1 : Below w.heap.size w w1 := by rw [hw1]; exact br.alloc (Nat.le_refl _) _
 obtain ⟨w2,hw2⟩ : ∃ w2,w2 = w1.alloc (.cells #[b0,b1,b2,b3,b4,b5,b6,b7,b8] 29) := ⟨_,rfl⟩
 have hz2 : w2.heap.size = w.heap.size + 2 := by rw [hw2]; simp [hz1]
 have hb2 : Below w1.heap.size w1 w2 := by rw [hw2]; exact br.alloc (Nat.le_refl _) _
 obtain ⟨w3,hw3⟩ : ∃ w3,w3 = w2.alloc (.cells #[c0,c1,c2,c3,c4,c5,c6,c7,c8] 29) := ⟨_,rfl⟩
 have hz3 : w3.heap.size = w.heap.size + 3 := by rw [hw3]; simp [hz2]
 have hb3 : Below w2.heap.size w2 w3 := by rw [hw3]; exact br.alloc (Nat.le_refl _) _
 obtain ⟨w4,hw4⟩ : ∃ w4,w4 = w3.alloc (.cells #[d0,d1,d2,d3,d4,d5,d6,d7] 27) := ⟨_,rfl⟩
 have hz4 : w4.heap.size = w.heap.size + 4 := by rw [hw4]; simp [hz3]
 have hb4 : Below w3.heap.size w3 w4 := by rw [hw4]; exact br.alloc (Nat.le_refl _) _
 obtain ⟨w5,hw5⟩ : ∃ w5,w5 = w4.alloc (.cells #[e0,e1,e2,e3,e4,e5,e6,e7] 27) := ⟨_,rfl⟩
 have hz5 : w5.heap.size = w.heap.size + 5 := by rw [hw5]; simp [hz4]
 have hb5 : Below w4.heap.size w4 w5 := by rw [hw5]; exact br.alloc (Nat.le_refl _) _
 obtain ⟨w6,hw6⟩ : ∃ w6,w6 = w5.alloc (.cells #[.bool false,.bool false,.string ⟨#[]⟩,.bool false,.string ⟨#[]⟩,.bool false,.string ⟨#[]⟩,.bool false,.string ⟨#[]⟩] 29) := ⟨_,rfl⟩
 have hz6 : w6.heap.size = w.heap.size + 6 := by rw [hw6]; simp [hz5]
 have hb6 : Below w5.heap.size w5 w6 := by rw [hw6]; exact br.alloc (Nat.le_refl _) _
 have t6 : Below w6.heap.size w6 w6 := Below.refl _ _
 have t5 : Below w5.heap.size w5 w6 := hb6.trans (t6.mono hb6.size)
 have t4 : Below w4.heap.size w4 w6 := hb5.trans (t5.mono hb5.size)
 have t3 : Below w3.heap.size w3 w6 := hb4.trans (t4.mono hb4.size)
 have t2 : Below w2.heap.size w2 w6 := hb3.trans (t3.mono hb3.size)
 have t1 : Below w1.heap.size w1 w6 := hb2.trans (t2.mono hb2.size)
 refine ⟨w6,Lib.hid ⟨by rw [hw6,hw5,hw4,hw3,hw2,hw1],hb1.trans (t1.mono hb1.size),hz6,fun w' h => ?_⟩⟩
 have e0 := (t1.trans (h.mono t1.size)).block w.heap.size (by rw [hw1]; simp)
 rw [hw1,heap_alloc_new] at e0
 have e1 := (t2.trans (h.mono t2.size)).block w1.heap.size (by rw [hw2]; simp)
 rw [hw2,heap_alloc_new] at e1
 rw [hz1] at e1
 have e2 := (t3.trans (h.mono t3.size)).block w2.heap.size (by rw [hw3]; simp)
 rw [hw3,heap_alloc_new] at e2
 rw [hz2] at e2
 have e3 := (t4.trans (h.mono t4.size)).block w3.heap.size (by rw [hw4]; simp)
 rw [hw4,heap_alloc_new] at e3
 rw [hz3] at e3
 have e4 := (t5.trans (h.mono t5.size)).block w4.heap.size (by rw [hw5]; simp)
 rw [hw5,heap_alloc_new] at e4
 rw [hz4] at e4
 have e5 := (t6.trans (h.mono t6.size)).block w5.heap.size (by rw [hw6]; simp)
 rw [hw6,heap_alloc_new] at e5
 rw [hz5] at e5
 refine ⟨?_,?_,?_,?_,?_,?_⟩ <;> simp [World.cell?,World.frozen?,e0,e1,e2,e3,e4,e5]
end Go.Proofs.YtepefgkihnjjaaaGreat
namespace Go.Proofs.YtepefgkihnjjaaaGreat
open Go.RowKit Tr
def badP (p q s : Pt) : Prop := lastBad (ptX p) (ptY p) (ptX q) (ptY q) (ptX s) (ptY s)
instance (p q s : Pt) : Decidable (badP p q s) := by unfold badP; exact inferInstance
def cX (p q s : Pt) (a b : QC) : QC := lastX (ptX p) (ptY p) (ptX q) (ptY q) (ptX s) (ptY s) a b
def cY (p q s : Pt) (a b : QC) : QC := lastY (ptX p) (ptY p) (ptX q) (ptY q) (ptX s) (ptY s) a b
def cornerV (p q s : Pt) (a b : QC) : Value := if badP p q s then zP else outP (cX p q s a b) (cY p q s a b)
def cornerC (p q s : Pt) (a b : QC) : Int := if badP p q s then 370 else outPC (cX p q s a b) (cY p q s a b)
theorem ZL_cX {p q s : Pt} {a b : QC} (hp : ShortP p) (hq : ShortP q) (hs : ShortP s) (ha : ShortZ a) (hb : ShortZ b) : ZL (cX p q s a b) 100000 :=
 (ZL_add (ZL_mul (ZL_mul (ZL_sub (ZL_mul (ZL_ptX hp) (ZL_ptY q)) (ZL_mul (ZL_ptY p) (ZL_ptX hq))) (ZL_short hb)) (ZL_ptX hs)) (ZL_mul (ZL_mul (ZL_sub (ZL_mul (ZL_ptX hs) (ZL_ptY p)) (ZL_mul (ZL_ptY s) (ZL_ptX hp))) (ZL_short ha)) (ZL_ptX hq))).mono (by decide)
theorem ZL_cY {p q s : Pt} {a b : QC} (hp : ShortP p) (hq : ShortP q) (hs : ShortP s) (ha : ShortZ a) (hb : ShortZ b) : ZL (cY p q s a b) 100000 :=
 (ZL_add (ZL_mul (ZL_mul (ZL_sub (ZL_mul (ZL_ptX hp) (ZL_ptY q)) (ZL_mul (ZL_ptY p) (ZL_ptX hq))) (ZL_short hb)) (ZL_ptY s)) (ZL_mul (ZL_mul (ZL_sub (ZL_mul (ZL_ptX hs) (ZL_ptY p)) (ZL_mul (ZL_ptY s) (ZL_ptX hp))) (ZL_short ha)) (ZL_ptY q))).mono (by decide)
theorem outP_nine (x y : QC) : ∃ i n1 s1 n2 s2 n3 s3 n4 s4,outP x y = .agg #[.bool i,.bool n1,.string s1,.bool n2,.string s2,.bool n3,.string s3,.bool n4,.string s4] := by
 unfold outP
 split
 ·exact ⟨_,_,_,_,_,_,_,_,_,rfl⟩
 ·split
  ·exact ⟨_,_,_,_,_,_,_,_,_,rfl⟩
  ·exact ⟨_,_,_,_,_,_,_,_,_,rfl⟩
theorem cell_four {w : World} {m : Nat} {T : TypeId} {a b c d : Value} (h : w.heap[m]? = some (.cells #[a,b,c,d] T (0,0))) : w.cell? ⟨m,0,none⟩ = some a ∧ w.cell? ⟨m,1,none⟩ = some b ∧ w.cell? ⟨m,2,none⟩ = some c ∧ w.cell? ⟨m,3,none⟩ = some d ∧ w.frozen? ⟨m,0,none⟩ = false ∧ w.frozen? ⟨m,1,none⟩ = false ∧ w.frozen? ⟨m,2,none⟩ = false ∧ w.frozen? ⟨m,3,none⟩ = false := by
 simp [World.cell?,World.frozen?,h]
theorem set4_block {w : World} {m : Nat} {T : TypeId} {a b c d x0 x1 x2 x3 : Value} (h : w.heap[m]? = some (.cells #[a,b,c,d] T (0,0))) : ((((w.setCell ⟨m,0,none⟩ x0).setCell ⟨m,1,none⟩ x1).setCell ⟨m,2,none⟩ x2).setCell ⟨m,3,none⟩ x3).heap[m]? = some (.cells #[x0,x1,x2,x3] T (0,0)) := by
 simp [World.setCell,Array.getElem?_modify,h]
theorem Fact.Keeps.less {R : Fact} (h : R.Keeps) {v : Value} {w : World} {A A' : Nat → Prop} (hR : R v w A) (hA : ∀ b,A' b → A b) : R v w A' := h v w w A A' (Nat.le_refl _) (fun b _ hb => ⟨rfl,fun h => hb (hA b h)⟩) hR
def PBlk (bad : Prop) (x y : QC) : Fact := fun v w A => ∃ m v1 v2 v3 v4,v = .pointer (some ⟨m,0,none⟩) ∧ ¬ A m ∧ w.heap[m]? = some (.cells #[.pointer v1,.pointer v2,.pointer v3,.pointer v4] 86 (0,0)) ∧ PZ bad x y (.agg #[.pointer v1,.pointer v2,.pointer v3,.pointer v4]) w A
theorem PBlk.keeps (bad : Prop) (x y : QC) : (PBlk bad x y).Keeps := fun v w w' A A' hs hk ⟨m,v1,v2,v3,v4,e,hA,hz,h⟩ =>
 have hm := hk m (Array.getElem?_eq_some_iff.1 hz).1 hA
 ⟨m,v1,v2,v3,v4,e,hm.2,hm.1.trans hz,PZ.keeps bad x y _ w w' A A' hs hk h⟩
theorem set_nine {w w1 : World} {n : Nat} (h : Below w.heap.size w w1) (hn : w.heap.size ≤ n) {x0 x1 x2 x3 x4 x5 x6 x7 x8 : Value} : Below w.heap.size w (((((((((w1.setCell ⟨n,0,none⟩ x0).setCell ⟨n,1,none⟩ x1).setCell ⟨n,2,none⟩ x2).setCell ⟨n,3,none⟩ x3).setCell ⟨n,4,none⟩ x4).setCell ⟨n,5,none⟩ x5).setCell ⟨n,6,none⟩ x6).setCell ⟨n,7,none⟩ x7).setCell ⟨n,8,none⟩ x8) :=
 ((((((((h.setCell (p := ⟨n,0,none⟩) hn _).setCell (p := ⟨n,1,none⟩) hn _).setCell (p := ⟨n,2,none⟩) hn _).setCell (p := ⟨n,3,none⟩) hn _).setCell (p := ⟨n,4,none⟩) hn _).setCell (p := ⟨n,5,none⟩) hn _).setCell (p := ⟨n,6,none⟩) hn _).setCell (p := ⟨n,7,none⟩) hn _).setCell (p := ⟨n,8,none⟩) hn _
set_option maxRecDepth 100000 in
set_option maxHeartbeats 6400000 in
theorem corner_any (p q s : Pt) (a b : QC) (hp : ShortP p) (hq : ShortP q) (hs : ShortP s) (ha : ShortZ a) (hb : ShortZ b) (w : World) :
  Calls Tryz.prog 24 #[encP p,encP q,encP s,encQ a,encQ b] w fun e w' => e = .returned (.tuple #[cornerV p q s a b,.int .i64 (cornerC p q s a b)]) ∧ Below w.heap.size w w' := by
 obtain ⟨i0,n00,s00,n01,s01,n02,s02,n03,s03,ep,Cp⟩ := encP_parts p hp
 obtain ⟨i1,n10,s10,n11,s11,n12,s12,n13,s13,eq,Cq⟩ := encP_parts q hq
 obtain ⟨i2,n20,s20,n21,s21,n22,s22,n23,s23,es,Cs⟩ := encP_parts s hs
 obtain ⟨n30,s30,n31,s31,n32,s32,n33,s33,ea,Ca⟩ := encQ_parts a ha
 obtain ⟨n40,s40,n41,s41,n42,s42,n43,s43,eb,Cb⟩ := encQ_parts b hb
 rw [ep,eq,es,ea,eb]
 obtain ⟨W,HV⟩ := cbox w (.bool i0) (.bool n00) (.string s00) (.bool n01) (.string s01) (.bool n02) (.string s02) (.bool n03) (.string s03) (.bool i1) (.bool n10) (.string s10) (.bool n11) (.string s11) (.bool n12) (.string s12) (.bool n13) (.string s13) (.bool i2) (.bool n20) (.string s20) (.bool n21) (.string s21) (.bool n22) (.string s22) (.bool n23) (.string s23) (.bool n30) (.string s30) (.bool n31) (.string s31) (.bool n32) (.string s32) (.bool n33) (.string s33) (.bool n40) (.string s40) (.bool n41) (.string s41) (.bool n42) (.string s42) (.bool n43) (.string s43)
 have HP := Lib.hid Cp
 have HQ := Lib.hid Cq
 have HS := Lib.hid Cs
 have HA := Lib.hid Ca
 have HB := Lib.hid Cb
 have ZX := ZL_cX hp hq hs ha hb
 have ZY := ZL_cY hp hq hs ha hb
 have LP := ZL_ptX hp
 have LQ := ZL_ptX hq
 have LS := ZL_ptX hs
 have LP' := ZL_ptY p
 have LQ' := ZL_ptY q
 have LS' := ZL_ptY s
 have LA := ZL_short ha
 have LB := ZL_short hb
 clear Cp Cq Cs Ca Cb ep eq es ea eb hp hq hs ha hb
 have hsz := HV.out.2.2.1
 have hs0 : w.heap.size < W.heap.size := by omega
 have hs1 : w.heap.size + 1 < W.heap.size := by omega
 have hs2 : w.heap.size + 2 < W.heap.size := by omega
 have hs3 : w.heap.size + 3 < W.heap.size := by omega
 have hs4 : w.heap.size + 4 < W.heap.size := by omega
 have hs5 : w.heap.size + 5 < W.heap.size := by omega
 obtain ⟨⟨c0,c1,c2,c3,c4,c5,c6,c7,c8⟩,⟨d0,d1,d2,d3,d4,d5,d6,d7,d8⟩,⟨x0,x1,x2,x3,x4,x5,x6,x7,x8⟩,⟨g0,g1,g2,g3,g4,g5,g6,g7⟩,⟨l0,l1,l2,l3,l4,l5,l6,l7⟩,_⟩ := HV.out.2.2.2 W br
 obtain ⟨kc,hkc⟩ : ∃ kc,kc = lastC (ptX p) (ptY p) (ptX q) (ptY q) (ptX s) (ptY s) := ⟨_,rfl⟩
 have HK := Lib.hid hkc
 have HZ := Lib.hid hsz
 clear hkc hsz
 go_enter Tryz.func24,Tryz.ntmps24
 go_wp2_with fail
 try simp only [Nat.add_assoc,Nat.reduceAdd]
 rw [← HV.out.1]
 refine wp_region_own [(.lit,[]),(.val,[]),(.lit,[]),(.val,[]),(.lit,[]),(.val,[]),(.lit,[]),(.val,[]),(.lit,[]),(.val,[]),(.val,[1,3,5,7,9]),(.val,[10]),(.val,[11]),(.val,[11]),(.new (.cells #[.pointer none,.pointer none,.pointer none,.pointer none] 86 (0,0)),[]),(.st 14 (.cells #[.pointer none,.pointer none,.pointer none,.pointer none] 86 (0,0)),[12])]
  (pickF [(1,PQ (ptX p) (ptY p)),(3,PQ (ptX q) (ptY q)),(5,PQ (ptX s) (ptY s)),(7,CQ a),(9,CQ b),(10,Tup (PZ (badP p q s) (cX p q s a b) (cY p q s a b)) kc),(11,Tup (PZ (badP p q s) (cX p q s a b) (cY p q s a b)) kc),(12,PZ (badP p q s) (cX p q s a b) (cY p q s a b)),(13,fun v _ _ => v = .int .i64 kc),(15,PBlk (badP p q s) (cX p q s a b) (cY p q s a b))]) (by kernel_rfl) ?_ ?_ ?_ (by simp) (by kernel_rfl)
 ·exact keeps_pick (by
   simp only [List.mem_cons,List.not_mem_nil,or_false]
   rintro p (rfl | rfl | rfl | rfl | rfl | rfl | rfl | rfl | rfl | rfl)
   ·exact PQ.keeps _ _
   ·exact PQ.keeps _ _
   ·exact PQ.keeps _ _
   ·exact CQ.keeps _
   ·exact CQ.keeps _
   ·exact Tup.keeps (PZ.keeps _ _ _) _
   ·exact Tup.keeps (PZ.keeps _ _ _) _
   ·exact PZ.keeps _ _ _
   ·exact keeps_pure _
   ·exact PBlk.keeps _ _ _)
 rotate_left
 ·intro q hq z hz
  have : z = .cells #[.pointer none,.pointer none,.pointer none,.pointer none] 86 (0,0) := by
   simp only [List.mem_cons,List.not_mem_nil,or_false] at hq
   rcases hq with rfl | rfl | rfl | rfl | rfl | rfl | rfl | rfl | rfl | rfl | rfl | rfl | rfl | rfl | rfl | rfl <;> simp at hz <;> exact hz.symm
  rw [this]; exact noW_p _
 ·refine ⟨_,fun f w1 h1 => by (have j0 := ct h1 hs0 c0; have j1 := ct h1 hs0 c1; have j2 := ct h1 hs0 c2; have j3 := ct h1 hs0 c3; have j4 := ct h1 hs0 c4; have j5 := ct h1 hs0 c5; have j6 := ct h1 hs0 c6; have j7 := ct h1 hs0 c7; have j8 := ct h1 hs0 c8; go_simp; rfl),?_⟩
  simp only [Act.put,nrA,nrB,nrC,Nat.reduceAdd]
  refine ⟨fun f w1 A1 k1 hA hN hd K hK => by
   go_simp
   refine (HP.out A1 w1 hA).mono ?_
   rintro e w' ⟨v,rfl,hb,hr⟩
   exact hK _ _ hb hr,?_⟩
  refine ⟨_,fun f w1 h1 => by (have j0 := ct h1 hs1 d0; have j1 := ct h1 hs1 d1; have j2 := ct h1 hs1 d2; have j3 := ct h1 hs1 d3; have j4 := ct h1 hs1 d4; have j5 := ct h1 hs1 d5; have j6 := ct h1 hs1 d6; have j7 := ct h1 hs1 d7; have j8 := ct h1 hs1 d8; go_simp; rfl),?_⟩
  simp only [Act.put,nrA,nrB,nrC,Nat.reduceAdd]
  refine ⟨fun f w1 A1 k1 hA hN hd K hK => by
   go_simp
   refine (HQ.out A1 w1 hA).mono ?_
   rintro e w' ⟨v,rfl,hb,hr⟩
   exact hK _ _ hb hr,?_⟩
  refine ⟨_,fun f w1 h1 => by (have j0 := ct h1 hs2 x0; have j1 := ct h1 hs2 x1; have j2 := ct h1 hs2 x2; have j3 := ct h1 hs2 x3; have j4 := ct h1 hs2 x4; have j5 := ct h1 hs2 x5; have j6 := ct h1 hs2 x6; have j7 := ct h1 hs2 x7; have j8 := ct h1 hs2 x8; go_simp; rfl),?_⟩
  simp only [Act.put,nrA,nrB,nrC,Nat.reduceAdd]
  refine ⟨fun f w1 A1 k1 hA hN hd K hK => by
   go_simp
   refine (HS.out A1 w1 hA).mono ?_
   rintro e w' ⟨v,rfl,hb,hr⟩
   exact hK _ _ hb hr,?_⟩
  refine ⟨_,fun f w1 h1 => by (have j0 := ct h1 hs3 g0; have j1 := ct h1 hs3 g1; have j2 := ct h1 hs3 g2; have j3 := ct h1 hs3 g3; have j4 := ct h1 hs3 g4; have j5 := ct h1 hs3 g5; have j6 := ct h1 hs3 g6; have j7 := ct h1 hs3 g7; go_simp; rfl),?_⟩
  simp only [Act.put,nrA,nrB,nrC,Nat.reduceAdd]
  refine ⟨fun f w1 A1 k1 hA hN hd K hK => by
   go_simp
   refine (HA.out A1 w1 hA).mono ?_
   rintro e w' ⟨v,rfl,hb,hr⟩
   exact hK _ _ hb hr,?_⟩
  refine ⟨_,fun f w1 h1 => by (have j0 := ct h1 hs4 l0; have j1 := ct h1 hs4 l1; have j2 := ct h1 hs4 l2; have j3 := ct h1 hs4 l3; have j4 := ct h1 hs4 l4; have j5 := ct h1 hs4 l5; have j6 := ct h1 hs4 l6; have j7 := ct h1 hs4 l7; go_simp; rfl),?_⟩
  simp only [Act.put,nrA,nrB,nrC,Nat.reduceAdd]
  refine ⟨fun f w1 A1 k1 hA hN hd K hK => by
   go_simp
   refine (HB.out A1 w1 hA).mono ?_
   rintro e w' ⟨v,rfl,hb,hr⟩
   exact hK _ _ hb hr,?_⟩
  simp only [Act.put,nrA,nrB,nrC,Nat.reduceAdd]
  refine ⟨fun f w1 A1 k1 hA hN hd K hK => by
   have i1 : PQ (ptX p) (ptY p) (f 1) w1 A1 := hd 1 (by simp)
   have i3 : PQ (ptX q) (ptY q) (f 3) w1 A1 := hd 3 (by simp)
   have i5 : PQ (ptX s) (ptY s) (f 5) w1 A1 := hd 5 (by simp)
   have i7 : CQ a (f 7) w1 A1 := hd 7 (by simp)
   have i9 : CQ b (f 9) w1 A1 := hd 9 (by simp)
   go_simp
   refine (last_any _ _ _ _ _ _ a b _ _ _ _ _ A1 w1 hA i1 i3 i5 i7 i9 1024 (by decide) LP LP' LQ LQ' LS LS' LA LB).mono ?_
   rintro e w' ⟨v,rfl,hb,hr⟩
   exact hK _ _ hb (by rw [HK.out]; exact hr),?_⟩
  simp only [Act.put,nrA,nrB,nrC,Nat.reduceAdd]
  refine ⟨fun f w1 A1 k1 hA hN hd K hK => by
   have i := hd 10 (by simp)
   go_simp
   exact hK _ _ br i,?_⟩
  simp only [Act.put,nrA,nrB,nrC,Nat.reduceAdd]
  refine ⟨fun f w1 A1 k1 hA hN hd K hK => by
   obtain ⟨u,e,hu⟩ : Tup (PZ (badP p q s) (cX p q s a b) (cY p q s a b)) kc (f 11) w1 A1 := hd 11 (by simp)
   simp only [e] at hK ⊢
   go_simp
   exact hK _ _ br hu,?_⟩
  simp only [Act.put,nrA,nrB,nrC,Nat.reduceAdd]
  refine ⟨fun f w1 A1 k1 hA hN hd K hK => by
   obtain ⟨u,e,hu⟩ : Tup (PZ (badP p q s) (cX p q s a b) (cY p q s a b)) kc (f 11) w1 A1 := hd 11 (by simp)
   simp only [e] at hK ⊢
   go_simp
   exact hK _ _ br rfl,?_⟩
  simp only [Act.put,nrA,nrB,nrC,Nat.reduceAdd]
  refine ⟨fun f w => by go_simp,?_⟩
  simp only [Act.put,nrA,nrB,nrC,Nat.reduceAdd]
  refine ⟨fun f w1 A1 m k1 hA hN hAm hm0 e hz hd K hK => by
   have iP : PZ (badP p q s) (cX p q s a b) (cY p q s a b) (f 12) w1 A1 := hd 12 (by simp)
   obtain ⟨v1,v2,v3,v4,e12⟩ := pz_agg iP
   rw [e12] at iP
   simp only [e,e12] at hK ⊢
   obtain ⟨k0,k1',k2,k3,f0,f1',f2,f3⟩ := cell_four hz
   go_simp
   refine hK _ ?_ ⟨m,v1,v2,v3,v4,rfl,by simp,set4_block hz,?_⟩
   ·exact ((((Mod.refl m w1).setCell 0 _).setCell 1 _).setCell 2 _).setCell 3 _
   ·exact Fact.Keeps.less (PZ.keeps _ _ _) (keep_setA (PZ.keeps _ _ _) hAm (keep_setA (PZ.keeps _ _ _) hAm (keep_setA (PZ.keeps _ _ _) hAm (keep_setA (PZ.keeps _ _ _) hAm iP)))) (fun b h => h.1),?_⟩
  intro f w1 A1 k1 hA1 hfr hap hF
  have iC : f 13 = .int .i64 kc := hF.1.2
  obtain ⟨m,v1,v2,v3,v4,em,_,zm,iP⟩ : PBlk (badP p q s) (cX p q s a b) (cY p q s a b) (f 14) w1 A1 := hF.2
  clear hF hap
  simp only [Act.put]
  rw [em,iC]
  generalize f 1 = z1
  generalize f 3 = z3
  generalize f 5 = z5
  generalize f 7 = z7
  generalize f 9 = z9
  generalize f 10 = z10
  generalize f 11 = z11
  generalize f 12 = z12
  have iP := Fact.Keeps.noA (PZ.keeps _ _ _) iP
  have hb1 : Below W.heap.size W w1 := br.drew.trans k1
  obtain ⟨k0,k1',k2,k3,_⟩ := cell_four zm
  have HE := Lib.hid (And.intro iP hb1)
  have hsz4 : w.heap.size + 6 ≤ w1.heap.size := by have h1 := hb1.size; have h2 := HZ.out; omega
  obtain ⟨_,_,_,_,_,⟨y0,y1,y2,y3,y4,y5,y6,y7,y8,h0,h1,h2,h3,h4,h5,h6,h7,h8⟩⟩ := HV.out.2.2.2 w1 hb1
  have HB1 := Lib.hid (HV.out.2.1.trans (hb1.mono HV.out.2.1.size))
  clear c0 c1 c2 c3 c4 c5 c6 c7 c8 d0 d1 d2 d3 d4 d5 d6 d7 d8 x0 x1 x2 x3 x4 x5 x6 x7 x8 g0 g1 g2 g3 g4 g5 g6 g7 l0 l1 l2 l3 l4 l5 l6 l7 hs0 hs1 hs2 hs3 hs4 hs5 em iC iP zm hb1 hA1 hfr k1 LP LP' LQ LQ' LS LS' LA LB HP HQ HS HA HB
  by_cases hbad : badP p q s
  ·have hk : kc = 370 := by rw [HK.out]; unfold lastC; exact if_pos hbad
   subst hk
   have HR := Lib.hid (show cornerV p q s a b = zP ∧ cornerC p q s a b = 370 from ⟨by unfold cornerV; exact if_pos hbad,by unfold cornerC; exact if_pos hbad⟩)
   go_wp2_with fail
   refine bodyPost_ret (v := .tuple #[zP,.int .i64 370]) (by unfold zP; simp [results,Tryz.results24,go_sem,y0,y1,y2,y3,y4,y5,y6,y7,y8]) rfl ⟨by rw [HR.out.1,HR.out.2],?_⟩
   exact set_nine HB1.out (by omega)
  ·have hk : kc = 0 := by rw [HK.out]; unfold lastC; exact if_neg hbad
   subst hk
   have jQ : PQ (cX p q s a b) (cY p q s a b) (.agg #[.pointer v1,.pointer v2,.pointer v3,.pointer v4]) w1 NoA := HE.out.1.elim (fun h => absurd h.1 hbad) (fun h => h.2)
   have HPP := Lib.hid (PPoint_any _ _ _ NoA w1 jQ 100000 100000 ZX ZY (by decide))
   obtain ⟨oi,on1,os1,on2,os2,on3,os3,on4,os4,eo⟩ := outP_nine (cX p q s a b) (cY p q s a b)
   obtain ⟨oc,hoc⟩ : ∃ oc,oc = outPC (cX p q s a b) (cY p q s a b) := ⟨_,rfl⟩
   rw [eo,← hoc] at HPP
   have HR := Lib.hid (show cornerV p q s a b = .agg #[.bool oi,.bool on1,.string os1,.bool on2,.string os2,.bool on3,.string os3,.bool on4,.string os4] ∧ cornerC p q s a b = oc from ⟨by unfold cornerV; rw [if_neg hbad,eo],by unfold cornerC; rw [if_neg hbad,hoc]⟩)
   clear jQ ZX ZY eo hoc
   go_wp2_with fail
   refine HPP.out.mono ?_
   rintro e w5 ⟨rfl,hb5⟩
   have hbw := HE.out.2.trans (hb5.mono HE.out.2.size)
   clear y0 y1 y2 y3 y4 y5 y6 y7 y8 h0 h1 h2 h3 h4 h5 h6 h7 h8 k0 k1' k2 k3
   obtain ⟨_,_,_,_,_,⟨y0,y1,y2,y3,y4,y5,y6,y7,y8,h0,h1,h2,h3,h4,h5,h6,h7,h8⟩⟩ := HV.out.2.2.2 w5 hbw
   have HB5 := Lib.hid (HV.out.2.1.trans (hbw.mono HV.out.2.1.size))
   clear hb5 hbw
   go_wp2_with fail
   refine bodyPost_ret (v := .tuple #[.agg #[.bool oi,.bool on1,.string os1,.bool on2,.string os2,.bool on3,.string os3,.bool on4,.string os4],.int .i64 oc]) (by simp [results,Tryz.results24,go_sem,y0,y1,y2,y3,y4,y5,y6,y7,y8]) rfl ⟨by rw [HR.out.1,HR.out.2],?_⟩
   exact set_nine HB5.out (by omega)
end Go.Proofs.YtepefgkihnjjaaaGreat
namespace Go.Proofs.YtepefgkihnjjaaaGreat
open Go.RowKit Tr
theorem RatO.shape {q : Rat} {v : Value} {w : World} {A : Nat → Prop} (h : RatO q v w A) : ∃ p,v = .pointer p := by
 rcases h with ⟨rfl,_⟩ | h
 ·exact ⟨none,rfl⟩
 ·obtain ⟨m,rfl⟩ := h.shape
  exact ⟨_,rfl⟩
theorem put_numO {a b : Rat} {v1 v2 : Value} {w w1 : World} {A : Nat → Prop} {n : Nat} (hb : Below w.heap.size w w1) (h1 : RatO a v1 w1 (Mo A n)) (h2 : RatO b v2 w1 (Mo A n)) (hn : w.heap.size ≤ n) :
  ∃ u,Ending.returned (.agg #[v1,v2]) = .returned u ∧ Below w.heap.size w ((w1.setCell ⟨n,0,none⟩ v1).setCell ⟨n,1,none⟩ v2) ∧ NumO a b u ((w1.setCell ⟨n,0,none⟩ v1).setCell ⟨n,1,none⟩ v2) A := by
 refine ⟨_,rfl,(hb.setCell (p := ⟨n,0,none⟩) hn _).setCell (p := ⟨n,1,none⟩) hn _,v1,v2,rfl,?_,?_⟩
 ·exact more_less _ (RatO.keeps a) (keep_set _ (RatO.keeps a) (keep_set _ (RatO.keeps a) h1))
 ·exact more_less _ (RatO.keeps b) (keep_set _ (RatO.keeps b) (keep_set _ (RatO.keeps b) h2))
set_option maxRecDepth 100000 in
set_option maxHeartbeats 3200000 in
theorem NDiv_any (a b c d n : Rat) (hn : n = c * c + d * d) (hn0 : n ≠ 0) (v v' : Value) (A : Nat → Prop) (w : World) (hv : NumO a b v w A) (hv' : NumO c d v' w A) (hA : Rcv A w) (k l : Nat) (hla : RL a k) (hlb : RL b k) (hlc : RL c l) (hld : RL d l) (hkl : (k + l + (k + l) + 1) + (l + l + (l + l) + 1) < 137438953472) :
  Calls Tryz.prog 35 #[v,v'] w fun e w' => ∃ u,e = .returned u ∧ Below w.heap.size w w' ∧ NumO ((a * c - b * (-d)) * n⁻¹) ((a * (-d) + b * c) * n⁻¹) u w' A := by
 have hv0 := new_more (NumO.keeps a b) (n := w.heap.size + 2) br (by omega) hv
 have hv0' := new_more (NumO.keeps c d) (n := w.heap.size + 2) br (by omega) hv'
 obtain ⟨u1,u2,rfl,h1,h2⟩ := hv
 obtain ⟨u3,u4,rfl,h3,h4⟩ := hv'
 clear h1 h2 h3 h4
 obtain ⟨W,HV,hs1,hs2,e0,e1,e2,e3⟩ := box_two w u1 u2 u3 u4 A hA
 have hx := Fact.Keeps.below (FactU.keeps (NumO.keeps a b)) HV.out.2.1 hv0
 have hy := Fact.Keeps.below (FactU.keeps (NumO.keeps c d)) HV.out.2.1 hv0'
 have HN := Lib.hid (And.intro hn hn0)
 clear hA hv0 hv0' hn hn0
 have lm1 : RL (a * c - b * (-d)) (k + l + (k + l) + 1) := RL_sub (RL_mul hla hlc) (RL_mul hlb (RL_neg hld))
 have lm2 : RL (a * (-d) + b * c) (k + l + (k + l) + 1) := RL_add (RL_mul hla (RL_neg hld)) (RL_mul hlb hlc)
 have ln : RL n (l + l + (l + l) + 1) := by rw [HN.out.1]; exact RL_add (RL_mul hlc hlc) (RL_mul hld hld)
 have li : RL n⁻¹ (l + l + (l + l) + 1) := RL_inv HN.out.2 ln
 go_enter Tryz.func35,Tryz.ntmps35
 go_wp2_with fail
 rw [← HV.out.1]
 refine wp_region_inv [(.lit,[]),(.lit,[]),(.val,[]),(.val,[2]),(.new zR,[]),(.lit,[]),(.val,[]),(.on 4 zR,[6]),(.val,[3,7])]
  (pickF [(2,FactU (Mo A (w.heap.size + 2)) (NumO c (-d))),(3,FactU (Mo A (w.heap.size + 2)) (NumO (a * c - b * (-d)) (a * (-d) + b * c))),(6,FactU (Mo A (w.heap.size + 2)) (RatP n)),(7,FactU (Mo A (w.heap.size + 2)) (RatP n⁻¹)),(8,FactU (Mo A (w.heap.size + 2)) (NumO ((a * c - b * (-d)) * n⁻¹) ((a * (-d) + b * c) * n⁻¹)))]) (by kernel_rfl) ?_ ?_ (by simp [noW_zRat]) (by simp) (by kernel_rfl)
 ·exact keeps_pick (by simp only [List.mem_cons,List.not_mem_nil,or_false]; rintro p (rfl | rfl | rfl | rfl | rfl) <;> first | exact FactU.keeps (RatP.keeps _) | exact FactU.keeps (NumO.keeps _ _))
 ·refine ⟨_,fun f w1 h1 => by (have d0 := ct h1 hs1 e0; have d1 := ct h1 hs1 e1; have d2 := ct h1 hs2 e2; have d3 := ct h1 hs2 e3; go_simp; rfl),?_⟩
  refine ⟨_,fun f w1 h1 => by (have d0 := ct h1 hs1 e0; have d1 := ct h1 hs1 e1; have d2 := ct h1 hs2 e2; have d3 := ct h1 hs2 e3; go_simp; rfl),?_⟩
  simp only [Act.put,nrA,nrB,nrC,Nat.reduceAdd]
  refine ⟨fun f w1 A1 k1 hA hN hd K hK => by
   go_simp
   refine (NConj_any c d _ (Un (Mo A (w.heap.size + 2)) A1) w1 (later (FactU.keeps (NumO.keeps _ _)) hy k1 hN) (rcv_un (HV.out.2.2.1.below (br.drew.trans k1)) hA) (hld.mono (by omega))).mono ?_
   rintro e w' ⟨v,rfl,hb,hr⟩
   exact hK _ _ hb hr,?_⟩
  simp only [Act.put,nrA,nrB,nrC,Nat.reduceAdd]
  refine ⟨fun f w1 A1 k1 hA hN hd K hK => by
   have i2 : NumO c (-d) (f 2) w1 (Un (Mo A (w.heap.size + 2)) A1) := hd 2 (by simp)
   go_simp
   refine (NMul_any a b c (-d) _ _ (Un (Mo A (w.heap.size + 2)) A1) w1 (later (FactU.keeps (NumO.keeps _ _)) hx k1 hN) i2 (rcv_un (HV.out.2.2.1.below (br.drew.trans k1)) hA) k l hla hlb hlc (RL_neg hld) (by omega)).mono ?_
   rintro e w' ⟨v,rfl,hb,hr⟩
   exact hK _ _ hb hr,?_⟩
  refine ⟨fun f w1 => by go_simp,?_⟩
  refine ⟨_,fun f w1 h1 => by (have d0 := ct h1 hs1 e0; have d1 := ct h1 hs1 e1; have d2 := ct h1 hs2 e2; have d3 := ct h1 hs2 e3; go_simp; rfl),?_⟩
  simp only [Act.put,nrA,nrB,nrC,Nat.reduceAdd]
  refine ⟨fun f w1 A1 k1 hA hN hd K hK => by
   go_simp
   refine (NNorm_any c d _ (Un (Mo A (w.heap.size + 2)) A1) w1 (later (FactU.keeps (NumO.keeps _ _)) hy k1 hN) (rcv_un (HV.out.2.2.1.below (br.drew.trans k1)) hA) l hlc hld (by omega)).mono ?_
   rintro e w' ⟨v,rfl,hb,hr⟩
   rw [← HN.out.1] at hr
   exact hK _ _ hb hr,?_⟩
  simp only [Act.put,nrA,nrB,nrC,Nat.reduceAdd]
  refine ⟨fun f w1 A1 m1 k1 hA hN hAm hm0 e hz hd K hK => by
   simp only [e] at hK ⊢
   have i6 : RatP n (f 6) w1 (Un (Mo A (w.heap.size + 2)) A1) := hd 6 (by simp)
   go_simp
   refine (RInv_any m1 _ n HN.out.2 _ _ w1 hz (by decide) noW_zRat i6 _ ln (by omega)).mono ?_
   rintro e w' ⟨rfl,hp⟩
   exact hK _ w' hp.1 (hp.ratU (HV.out.2.2.1.below (br.drew.trans k1)) hA hm0 (fun b hb => HV.out.2.2.1.lt hb)),?_⟩
  simp only [Act.put,nrA,nrB,nrC,Nat.reduceAdd]
  refine ⟨fun f w1 A1 k1 hA hN hd K hK => by
   have i3 : NumO (a * c - b * (-d)) (a * (-d) + b * c) (f 3) w1 (Un (Mo A (w.heap.size + 2)) A1) := hd 3 (by simp)
   have i7 : RatP n⁻¹ (f 7) w1 (Un (Mo A (w.heap.size + 2)) A1) := hd 7 (by simp)
   go_simp
   refine (NScale_any _ _ _ _ _ (Un (Mo A (w.heap.size + 2)) A1) w1 i3 (.inr i7) (rcv_un (HV.out.2.2.1.below (br.drew.trans k1)) hA) _ _ lm1 lm2 li hkl).mono ?_
   rintro e w' ⟨v,rfl,hb,hr⟩
   exact hK _ _ hb hr,?_⟩
  intro f w1 k1 hF
  have i8 : NumO ((a * c - b * (-d)) * n⁻¹) ((a * (-d) + b * c) * n⁻¹) (f 8) w1 (Mo A (w.heap.size + 2)) := FactU.done (NumO.keeps _ _) hF.2
  clear hF
  simp only [Act.put,nrA,nrB,nrC]
  generalize f 2 = x2
  generalize f 3 = x3
  generalize f 6 = x6
  generalize f 7 = x7
  generalize f 8 = x8 at *
  obtain ⟨y1,y2,rfl,j1,j2⟩ := i8
  have hb1 : Below W.heap.size W w1 := br.drew.trans k1
  obtain ⟨c0,c1,f0,f1⟩ := HV.out.2.2.2 w1 hb1
  have HE := Lib.hid (And.intro j1 (And.intro j2 (HV.out.2.1.trans (hb1.mono HV.out.2.1.size))))
  obtain ⟨m1,rfl⟩ := j1.shape
  obtain ⟨m2,rfl⟩ := j2.shape
  clear e0 e1 e2 e3 j1 j2 hb1 k1 hx hy lm1 lm2 ln li
  go_wp2_with fail
  refine bodyPost_ret (v := .agg #[.pointer m1,.pointer m2]) (by simp [results,Tryz.results35,go_sem,c0,c1]) rfl ?_
  exact put_numO HE.out.2.2 HE.out.1 HE.out.2.1 (by omega)
set_option maxRecDepth 100000 in
set_option maxHeartbeats 1600000 in
theorem NTold_any (a b : Rat) (v : Value) (A : Nat → Prop) (w : World) (hv : NumO a b v w A) (hla : RL a 137438953472) (hlb : RL b 137438953472) :
  Calls Tryz.prog 62 #[v] w fun e w' => e = .returned (.tuple #[outG a b,.int .i64 (outGC a b)]) ∧ Below w.heap.size w w' := by
 obtain ⟨u1,u2,rfl,h1,h2⟩ := hv
 obtain ⟨b1,t1,b2,t2,ea⟩ := outF_four a
 obtain ⟨b3,t3,b4,t4,eb⟩ := outF_four b
 obtain ⟨k1,hk1⟩ : ∃ k1,k1 = outC a := ⟨_,rfl⟩
 obtain ⟨k2,hk2⟩ : ∃ k2,k2 = outC b := ⟨_,rfl⟩
 obtain ⟨W0,hW0⟩ : ∃ W0,W0 = w.alloc (.cells #[u1,u2] 66) := ⟨_,rfl⟩
 have hz0 : W0.heap.size = w.heap.size + 1 := by rw [hW0]; simp
 obtain ⟨W,hW⟩ : ∃ W,W = W0.alloc (.cells #[.bool false,.string ⟨#[]⟩,.bool false,.string ⟨#[]⟩,.bool false,.string ⟨#[]⟩,.bool false,.string ⟨#[]⟩] 27) := ⟨_,rfl⟩
 have hb0 : Below w.heap.size w W0 := by rw [hW0]; exact br.alloc (Nat.le_refl _) _
 have hb1 : Below W0.heap.size W0 W := by rw [hW]; exact br.alloc (Nat.le_refl _) _
 have hb := hb0.trans (hb1.mono hb0.size)
 obtain ⟨e0,e1,_⟩ := new_two w u1 u2 66 (w1 := W) (by rw [← hW0]; exact hb1)
 have hlt : w.heap.size < W.heap.size := by have := hb1.size; omega
 have H1 := Lib.hid (EFrac_any a u1 A W (h1.below hb) hla)
 have H2 := Lib.hid (fun w' (h : Below W.heap.size W w') => EFrac_any b u2 A w' ((h2.below hb).below h) hlb)
 rw [ea,← hk1] at H1
 rw [eb,← hk2] at H2
 have HK := Lib.hid (And.intro (show k1 = 0 ↔ ShortF a by rw [hk1]; exact outC_zero) (And.intro (show k2 = 0 ↔ ShortF b by rw [hk2]; exact outC_zero) (And.intro ea eb)))
 have HV := Lib.hid (And.intro (hW.trans (by rw [hW0])) (And.intro hb (fun w1 (h : Below W.heap.size W w1) => And.intro (new_eight W0 _ _ _ _ _ _ _ _ _ (w1 := w1) (by rw [← hW]; exact h)) (frozen_eight W0 _ _ _ _ _ _ _ _ _ (w1 := w1) (by rw [← hW]; exact h)))))
 rw [hz0] at HV
 clear hk1 hk2 ea eb hW hW0 hz0 hb hb0 hb1 h1 h2
 go_enter Tryz.func62,Tryz.ntmps62
 go_wp2_with fail
 rw [← HV.out.1]
 refine H1.out.mono ?_
 rintro e w1 ⟨rfl,hb1⟩
 have e0 := (hb1.cell (p := ⟨w.heap.size,0,none⟩) hlt).trans e0
 have e1 := (hb1.cell (p := ⟨w.heap.size,1,none⟩) hlt).trans e1
 have hlt1 : w.heap.size < w1.heap.size := Nat.lt_of_lt_of_le hlt hb1.size
 have HB1 := Lib.hid hb1
 clear hb1
 go_wp2_with fail
 have hal := (Below.refl w1.heap.size w1).alloc (Nat.le_refl _) (.cells #[.bool b1,.string t1,.bool b2,.string t2] 25)
 refine (H2.out _ (HB1.out.trans (hal.mono HB1.out.size))).mono ?_
 rintro e w3 ⟨rfl,hb3⟩
 obtain ⟨g0,g1,g2,g3,_⟩ := new_four w1 _ _ _ _ _ hb3
 have hb13 := hal.trans (hb3.mono hal.size)
 have hbW3 := HB1.out.trans (hb13.mono HB1.out.size)
 obtain ⟨⟨c0,c1,c2,c3,c4,c5,c6,c7⟩,f0,f1,f2,f3,f4,f5,f6,f7⟩ := HV.out.2.2 w3 hbW3
 have hne : w1.heap.size < w3.heap.size := by have := hb3.size; simp at this; omega
 have hn2 : w.heap.size + 1 < w3.heap.size := by omega
 have hF := HV.out.2.1.trans (hbW3.mono HV.out.2.1.size)
 have HF := Lib.hid hF
 have HO := Lib.hid (fun (h : ¬ (ShortF a ∧ ShortF b)) => show zG = outG a b ∧ (4 : Int) = outGC a b by unfold outG outGC; rw [if_neg h,if_neg h]; exact ⟨rfl,rfl⟩)
 clear e0 e1 hb3 hal hb13 hbW3 hF H1 H2
 by_cases x1 : k1 = 0
 ·by_cases x2 : k2 = 0
  ·have HG := Lib.hid (And.intro (outG_of (HK.out.1.1 x1) (HK.out.2.1.1 x2) HK.out.2.2.1 HK.out.2.2.2) (show outGC a b = 0 by unfold outGC; rw [if_pos ⟨HK.out.1.1 x1,HK.out.2.1.1 x2⟩]))
   subst x1 x2
   go_wp2_with fail
   refine bodyPost_ret (v := .tuple #[.agg #[.bool b1,.string t1,.bool b2,.string t2,.bool b3,.string t3,.bool b4,.string t4],.int .i64 0]) (by simp [results,Tryz.results62,go_sem,c0,c1,c2,c3,c4,c5,c6,c7,hn2,cell_alloc_lt]) rfl ⟨by rw [HG.out.1,HG.out.2],?_⟩
   exact Below.alloc ((((((((HF.out.setCell (p := ⟨w.heap.size + 1,0,none⟩) (Nat.le_succ _) _).setCell (p := ⟨w.heap.size + 1,1,none⟩) (Nat.le_succ _) _).setCell (p := ⟨w.heap.size + 1,2,none⟩) (Nat.le_succ _) _).setCell (p := ⟨w.heap.size + 1,3,none⟩) (Nat.le_succ _) _).setCell (p := ⟨w.heap.size + 1,4,none⟩) (Nat.le_succ _) _).setCell (p := ⟨w.heap.size + 1,5,none⟩) (Nat.le_succ _) _).setCell (p := ⟨w.heap.size + 1,6,none⟩) (Nat.le_succ _) _).setCell (p := ⟨w.heap.size + 1,7,none⟩) (Nat.le_succ _) _) (by simp only [setCell_size]; exact (HF.out.size)) _
  ·have hx2 : (k2 != 0) = true := by simpa using x2
   have HN := Lib.hid (HO.out (fun h => x2 (HK.out.2.1.2 h.2)))
   subst x1
   go_wp2_with fail
   refine bodyPost_ret (v := .tuple #[zG,.int .i64 4]) (by unfold zG; simp [results,Tryz.results62,go_sem,c0,c1,c2,c3,c4,c5,c6,c7,hn2,cell_alloc_lt]) rfl ⟨by rw [HN.out.1,HN.out.2],?_⟩
   exact Below.alloc ((((((((HF.out.setCell (p := ⟨w.heap.size + 1,0,none⟩) (Nat.le_succ _) _).setCell (p := ⟨w.heap.size + 1,1,none⟩) (Nat.le_succ _) _).setCell (p := ⟨w.heap.size + 1,2,none⟩) (Nat.le_succ _) _).setCell (p := ⟨w.heap.size + 1,3,none⟩) (Nat.le_succ _) _).setCell (p := ⟨w.heap.size + 1,4,none⟩) (Nat.le_succ _) _).setCell (p := ⟨w.heap.size + 1,5,none⟩) (Nat.le_succ _) _).setCell (p := ⟨w.heap.size + 1,6,none⟩) (Nat.le_succ _) _).setCell (p := ⟨w.heap.size + 1,7,none⟩) (Nat.le_succ _) _) (by simp only [setCell_size]; exact (HF.out.size)) _
 ·have hx1 : (k1 != 0) = true := by simpa using x1
  have HN := Lib.hid (HO.out (fun h => x1 (HK.out.1.2 h.1)))
  go_wp2_with fail
  refine bodyPost_ret (v := .tuple #[zG,.int .i64 4]) (by unfold zG; simp [results,Tryz.results62,go_sem,c0,c1,c2,c3,c4,c5,c6,c7,hn2,cell_alloc_lt]) rfl ⟨by rw [HN.out.1,HN.out.2],?_⟩
  exact Below.alloc ((((((((HF.out.setCell (p := ⟨w.heap.size + 1,0,none⟩) (Nat.le_succ _) _).setCell (p := ⟨w.heap.size + 1,1,none⟩) (Nat.le_succ _) _).setCell (p := ⟨w.heap.size + 1,2,none⟩) (Nat.le_succ _) _).setCell (p := ⟨w.heap.size + 1,3,none⟩) (Nat.le_succ _) _).setCell (p := ⟨w.heap.size + 1,4,none⟩) (Nat.le_succ _) _).setCell (p := ⟨w.heap.size + 1,5,none⟩) (Nat.le_succ _) _).setCell (p := ⟨w.heap.size + 1,6,none⟩) (Nat.le_succ _) _).setCell (p := ⟨w.heap.size + 1,7,none⟩) (Nat.le_succ _) _) (by simp only [setCell_size]; exact (HF.out.size)) _
def MayF (v : Value) : Fact := fun u w A => (¬ FracOk v ∧ u = .pointer none) ∨ ∃ q,v = encF q ∧ FracOk v ∧ RatP q u w A
theorem MayF.keeps (v : Value) : (MayF v).Keeps := fun u w w' A A' hs hk h => h.imp id (fun ⟨q,e,f,h⟩ => ⟨q,e,f,RatP.keeps q u w w' A A' hs hk h⟩)
theorem MayR.mayF {v u : Value} {w w' : World} {A : Nat → Prop} (h : MayR v w.heap.size u w' NoA) (hb : Below w.heap.size w w') (hA : Rcv A w) : MayF v u w' A := by
 rcases h with h | ⟨q,e,f,h⟩
 ·exact .inl h
 ·exact .inr ⟨q,e,f,(h.new hb (Nat.le_refl _)).2 A hA⟩
def NQ (z : QC) : Fact := NumO z.re z.im
theorem NQ.keeps (z : QC) : (NQ z).Keeps := NumO.keeps _ _
def GaussOk (v : Value) : Prop := ∃ z : QC,v = encG z.re z.im ∧ ShortF z.re ∧ ShortF z.im
theorem gaussOk_iff {n1 n2 n3 n4 : Bool} {s1 s2 s3 s4 : ByteArray} : GaussOk (.agg #[.bool n1,.string s1,.bool n2,.string s2,.bool n3,.string s3,.bool n4,.string s4]) ↔ FracOk (.agg #[.bool n1,.string s1,.bool n2,.string s2]) ∧ FracOk (.agg #[.bool n3,.string s3,.bool n4,.string s4]) := by
 constructor
 ·rintro ⟨z,e,h1,h2⟩
  unfold encG at e
  simp only [Value.agg.injEq,Array.mk.injEq,List.cons.injEq,Value.bool.injEq,Value.string.injEq,and_true] at e
  obtain ⟨e1,e2,e3,e4,e5,e6,e7,e8⟩ := e
  subst e1 e2 e3 e4 e5 e6 e7 e8
  exact ⟨⟨z.re,rfl,h1⟩,⟨z.im,rfl,h2⟩⟩
 ·rintro ⟨⟨a,e1,h1⟩,⟨b,e2,h2⟩⟩
  obtain ⟨rfl,rfl,rfl,rfl⟩ := encF_parts e1
  obtain ⟨rfl,rfl,rfl,rfl⟩ := encF_parts e2
  exact ⟨⟨a,b⟩,rfl,h1,h2⟩
end Go.Proofs.YtepefgkihnjjaaaGreat
