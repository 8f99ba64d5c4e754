/- Laws for the walk. -/
import Derived.Test.YtepefgkihnjjaaaGreatZzz
import Derived.Test.YtepefgkihnjjaaaGreatZap
set_option linter.unusedVariables false
namespace Go.Proofs.YtepefgkihnjjaaaGreat
open Go.RowKit Tr
structure QC where
 re : Rat
 im : Rat
 deriving DecidableEq
namespace QC
instance : Mul QC := ⟨fun x y => ⟨x.re * y.re - x.im * y.im,x.re * y.im + x.im * y.re⟩⟩
instance : Add QC := ⟨fun x y => ⟨x.re + y.re,x.im + y.im⟩⟩
instance : Sub QC := ⟨fun x y => ⟨x.re - y.re,x.im - y.im⟩⟩
end QC
def ZL (z : QC) (k : Nat) : Prop := RL z.re k ∧ RL z.im k
theorem ZL.mono {z : QC} {k l : Nat} (h : ZL z k) (hl : k ≤ l) : ZL z l := ⟨h.1.mono hl,h.2.mono hl⟩
theorem ZL_mul {x y : QC} {k l : Nat} (hx : ZL x k) (hy : ZL y l) : ZL (x * y) (k + l + (k + l) + 1) := ⟨RL_sub (RL_mul hx.1 hy.1) (RL_mul hx.2 hy.2),RL_add (RL_mul hx.1 hy.2) (RL_mul hx.2 hy.1)⟩
theorem ZL_add {x y : QC} {k l : Nat} (hx : ZL x k) (hy : ZL y l) : ZL (x + y) (k + l + 1) := ⟨RL_add hx.1 hy.1,RL_add hx.2 hy.2⟩
theorem ZL_sub {x y : QC} {k l : Nat} (hx : ZL x k) (hy : ZL y l) : ZL (x - y) (k + l + 1) := ⟨RL_sub hx.1 hy.1,RL_sub hx.2 hy.2⟩
def CQ (z : QC) : Fact := CP z.re z.im
theorem CQ.keeps (z : QC) : (CQ z).Keeps := CP.keeps _ _
def PQ (x y : QC) : Fact := PP x.re x.im y.re y.im
theorem PQ.keeps (x y : QC) : (PQ x y).Keeps := PP.keeps _ _ _ _
theorem QMul_any (x y : QC) (v v' : Value) (A : Nat → Prop) (w : World) (hv : CQ x v w A) (hv' : CQ y v' w A) (hA : Rcv A w) (k l : Nat) (hx : ZL x k) (hy : ZL y l) (hkl : k + l + (k + l) < 137438953472) :
  Calls Tryz.prog 76 #[v,v'] w fun e w' => ∃ u,e = .returned u ∧ Below w.heap.size w w' ∧ CQ (x * y) u w' A := XMul_any _ _ _ _ v v' A w hv hv' hA k l hx.1 hx.2 hy.1 hy.2 hkl
theorem QAdd_any (x y : QC) (v v' : Value) (A : Nat → Prop) (w : World) (hv : CQ x v w A) (hv' : CQ y v' w A) (hA : Rcv A w) (k l : Nat) (hx : ZL x k) (hy : ZL y l) (hkl : k + l < 137438953472) :
  Calls Tryz.prog 77 #[v,v'] w fun e w' => ∃ u,e = .returned u ∧ Below w.heap.size w w' ∧ CQ (x + y) u w' A := XAdd_any _ _ _ _ v v' A w hv hv' hA k l hx.1 hx.2 hy.1 hy.2 hkl
theorem QSub_any (x y : QC) (v v' : Value) (A : Nat → Prop) (w : World) (hv : CQ x v w A) (hv' : CQ y v' w A) (hA : Rcv A w) (k l : Nat) (hx : ZL x k) (hy : ZL y l) (hkl : k + l < 137438953472) :
  Calls Tryz.prog 116 #[v,v'] w fun e w' => ∃ u,e = .returned u ∧ Below w.heap.size w w' ∧ CQ (x - y) u w' A := XSub_any _ _ _ _ v v' A w hv hv' hA k l hx.1 hx.2 hy.1 hy.2 hkl
theorem pbox_two (w : World) (u1 u2 u3 u4 u5 u6 u7 u8 : Value) (A : Nat → Prop) (hA : Rcv A w) :
  ∃ W,Hid (W = ((w.alloc (.cells #[u1,u2,u3,u4] 86)).alloc (.cells #[u5,u6,u7,u8] 86)).alloc (.cells #[.pointer none,.pointer none] 83) ∧ Below w.heap.size w W ∧ Rcv (Mo A (w.heap.size + 2)) W ∧ ∀ w1,Below W.heap.size W w1 → w1.cell? ⟨w.heap.size + 2,0,none⟩ = some (.pointer none) ∧ w1.cell? ⟨w.heap.size + 2,1,none⟩ = some (.pointer none) ∧ w1.frozen? ⟨w.heap.size + 2,0,none⟩ = false ∧ w1.frozen? ⟨w.heap.size + 2,1,none⟩ = false) ∧ w.heap.size < W.heap.size ∧ w.heap.size + 1 < W.heap.size ∧ (W.cell? ⟨w.heap.size,0,none⟩ = some u1 ∧ W.cell? ⟨w.heap.size,1,none⟩ = some u2 ∧ W.cell? ⟨w.heap.size,2,none⟩ = some u3 ∧ W.cell? ⟨w.heap.size,3,none⟩ = some u4) ∧ W.cell? ⟨w.heap.size + 1,0,none⟩ = some u5 ∧ W.cell? ⟨w.heap.size + 1,1,none⟩ = some u6 ∧ W.cell? ⟨w.heap.size + 1,2,none⟩ = some u7 ∧ W.cell? ⟨w.heap.size + 1,3,none⟩ = some u8 := by
 obtain ⟨w1,hw1⟩ : ∃ w1,w1 = w.alloc (.cells #[u1,u2,u3,u4] 86) := ⟨_,rfl⟩
 have hz1 : w1.heap.size = w.heap.size + 1 := by rw [hw1]; simp
 obtain ⟨w2,hw2⟩ : ∃ w2,w2 = w1.alloc (.cells #[u5,u6,u7,u8] 86) := ⟨_,rfl⟩
 have hz2 : w2.heap.size = w.heap.size + 2 := by rw [hw2]; simp [hz1]
 have hb01 : Below w.heap.size w w1 := by rw [hw1]; exact br.alloc (Nat.le_refl _) _
 have hb12 : Below w1.heap.size w1 w2 := by rw [hw2]; exact br.alloc (Nat.le_refl _) _
 have hb23 : Below w2.heap.size w2 (w2.alloc (.cells #[.pointer none,.pointer none] 83)) := br.alloc (Nat.le_refl _) _
 have hb13 := hb12.trans (hb23.mono hb12.size)
 have hb : Below w.heap.size w (w2.alloc (.cells #[.pointer none,.pointer none] 83)) := hb01.trans (hb13.mono hb01.size)
 obtain ⟨e0,e1,e2,e3,_⟩ := new_four w u1 u2 u3 u4 86 (by rw [← hw1]; exact hb13)
 obtain ⟨e4,e5,e6,e7,_⟩ := new_four w1 u5 u6 u7 u8 86 (by rw [← hw2]; exact hb23)
 have hn := heap_alloc_new w2 (.cells #[.pointer none,.pointer none] 83 (0,0))
 rw [hz2] at hn
 rw [hz1] at e4 e5 e6 e7
 refine ⟨w2.alloc (.cells #[.pointer none,.pointer none] 83),Lib.hid ⟨by rw [hw2,hw1],hb,fun b h => h.elim (fun h => (hA.below hb) b h) (fun h => by subst h; exact ⟨_,hn,noW_num _ _ ⟨_,rfl⟩ ⟨_,rfl⟩ _⟩),fun w1 h => ?_⟩,by simp; omega,by simp; omega,⟨e0,e1,e2,e3⟩,e4,e5,e6,e7⟩
 have := new_two w2 (.pointer none) (.pointer none) 83 h
 rw [hz2] at this
 exact this
set_option maxRecDepth 100000 in
set_option maxHeartbeats 3200000 in
theorem det_any (x1 y1 x2 y2 : QC) (v v' : Value) (A : Nat → Prop) (w : World) (hv : PQ x1 y1 v w A) (hv' : PQ x2 y2 v' w A) (hA : Rcv A w) (k l : Nat) (hx1 : ZL x1 k) (hy1 : ZL y1 k) (hx2 : ZL x2 l) (hy2 : ZL y2 l) (hkl : k + l + (k + l) + 1 + (k + l + (k + l) + 1) < 137438953472) :
  Calls Tryz.prog 75 #[v,v'] w fun e w' => ∃ u,e = .returned u ∧ Below w.heap.size w w' ∧ CQ (x1 * y2 - y1 * x2) u w' A := by
 have hv := new_more (PQ.keeps _ _) (n := w.heap.size + 2) br (by omega) hv
 have hv' := new_more (PQ.keeps _ _) (n := w.heap.size + 2) br (by omega) hv'
 obtain ⟨u1,u2,u3,u4,rfl,g1,g2,g3,g4⟩ := id hv
 obtain ⟨u5,u6,u7,u8,rfl,g5,g6,g7,g8⟩ := id hv'
 obtain ⟨W,HV,hs1,hs2,⟨e0,e1,e2,e3⟩,e4,e5,e6,e7⟩ := pbox_two w u1 u2 u3 u4 u5 u6 u7 u8 A hA
 have px1 := Fact.Keeps.below (FactU.keeps (CQ.keeps x1)) HV.out.2.1 (show FactU (Mo A (w.heap.size + 2)) (CQ x1) (.agg #[u1,u2]) w NoA from ⟨_,_,rfl,g1,g2⟩)
 have py1 := Fact.Keeps.below (FactU.keeps (CQ.keeps y1)) HV.out.2.1 (show FactU (Mo A (w.heap.size + 2)) (CQ y1) (.agg #[u3,u4]) w NoA from ⟨_,_,rfl,g3,g4⟩)
 have px2 := Fact.Keeps.below (FactU.keeps (CQ.keeps x2)) HV.out.2.1 (show FactU (Mo A (w.heap.size + 2)) (CQ x2) (.agg #[u5,u6]) w NoA from ⟨_,_,rfl,g5,g6⟩)
 have py2 := Fact.Keeps.below (FactU.keeps (CQ.keeps y2)) HV.out.2.1 (show FactU (Mo A (w.heap.size + 2)) (CQ y2) (.agg #[u7,u8]) w NoA from ⟨_,_,rfl,g7,g8⟩)
 clear hv hv' hA g1 g2 g3 g4 g5 g6 g7 g8
 go_enter Tryz.func75,Tryz.ntmps75
 go_wp2_with fail
 rw [← HV.out.1]
 refine wp_region_inv [(.lit,[]),(.lit,[]),(.lit,[]),(.lit,[]),(.val,[]),(.lit,[]),(.lit,[]),(.lit,[]),(.lit,[]),(.val,[]),(.val,[4,9])]
  (pickF [(4,FactU (Mo A (w.heap.size + 2)) (CQ (x1 * y2))),(9,FactU (Mo A (w.heap.size + 2)) (CQ (y1 * x2))),(10,FactU (Mo A (w.heap.size + 2)) (CQ (x1 * y2 - y1 * x2)))]) (by kernel_rfl) ?_ ?_ (by simp) (by simp) (by kernel_rfl)
 ·exact keeps_pick (by simp only [List.mem_cons,List.not_mem_nil,or_false]; rintro p (rfl | rfl | rfl) <;> exact FactU.keeps (CQ.keeps _))
 ·repeat (refine ⟨_,fun f w1 h1 => by (have d0 := ct h1 hs1 e0; have d1 := ct h1 hs1 e1; have d2 := ct h1 hs1 e2; have d3 := ct h1 hs1 e3; have d4 := ct h1 hs2 e4; have d5 := ct h1 hs2 e5; have d6 := ct h1 hs2 e6; have d7 := ct h1 hs2 e7; go_simp; rfl),?_⟩)
  simp only [Act.put,nrA,nrB,nrC,Nat.reduceAdd]
  refine ⟨fun f w1 A1 k1 hA hN hd K hK => by
   go_simp
   refine (QMul_any x1 y2 _ _ (Un (Mo A (w.heap.size + 2)) A1) w1 (later (FactU.keeps (CQ.keeps _)) px1 k1 hN) (later (FactU.keeps (CQ.keeps _)) py2 k1 hN) (rcv_un (HV.out.2.2.1.below (br.drew.trans k1)) hA) k l hx1 hy2 (by omega)).mono ?_
   rintro e w' ⟨v,rfl,hb,hr⟩
   exact hK _ _ hb hr,?_⟩
  repeat (refine ⟨_,fun f w1 h1 => by (have d0 := ct h1 hs1 e0; have d1 := ct h1 hs1 e1; have d2 := ct h1 hs1 e2; have d3 := ct h1 hs1 e3; have d4 := ct h1 hs2 e4; have d5 := ct h1 hs2 e5; have d6 := ct h1 hs2 e6; have d7 := ct h1 hs2 e7; go_simp; rfl),?_⟩)
  simp only [Act.put,nrA,nrB,nrC,Nat.reduceAdd]
  refine ⟨fun f w1 A1 k1 hA hN hd K hK => by
   go_simp
   refine (QMul_any y1 x2 _ _ (Un (Mo A (w.heap.size + 2)) A1) w1 (later (FactU.keeps (CQ.keeps _)) py1 k1 hN) (later (FactU.keeps (CQ.keeps _)) px2 k1 hN) (rcv_un (HV.out.2.2.1.below (br.drew.trans k1)) hA) k l hy1 hx2 (by omega)).mono ?_
   rintro e w' ⟨v,rfl,hb,hr⟩
   exact hK _ _ hb hr,?_⟩
  simp only [Act.put,nrA,nrB,nrC,Nat.reduceAdd]
  refine ⟨fun f w1 A1 k1 hA hN hd K hK => by
   have i4 : CQ (x1 * y2) (f 4) w1 (Un (Mo A (w.heap.size + 2)) A1) := hd 4 (by simp)
   have i9 : CQ (y1 * x2) (f 9) w1 (Un (Mo A (w.heap.size + 2)) A1) := hd 9 (by simp)
   go_simp
   refine (QSub_any _ _ _ _ (Un (Mo A (w.heap.size + 2)) A1) w1 i4 i9 (rcv_un (HV.out.2.2.1.below (br.drew.trans k1)) hA) _ _ (ZL_mul hx1 hy2) (ZL_mul hy1 hx2) hkl).mono ?_
   rintro e w' ⟨v,rfl,hb,hr⟩
   exact hK _ _ hb hr,?_⟩
  intro f w1 k1 hF
  have i8 : CQ (x1 * y2 - y1 * x2) (f 10) w1 (Mo A (w.heap.size + 2)) := FactU.done (CQ.keeps _) hF.2
  clear hF
  simp only [Act.put,nrA,nrB,nrC]
  generalize f 4 = z4
  generalize f 9 = z9
  generalize f 10 = z10 at *
  obtain ⟨m1',m2',rfl,j1,j2⟩ := i8
  have hb1 : Below W.heap.size W w1 := br.drew.trans k1
  obtain ⟨c0,c1,f0,f1⟩ := HV.out.2.2.2 w1 hb1
  have HE := Lib.hid (And.intro j1 (And.intro j2 (HV.out.2.1.trans (hb1.mono HV.out.2.1.size))))
  obtain ⟨m1,rfl⟩ := j1.shape
  obtain ⟨m2,rfl⟩ := j2.shape
  clear e0 e1 e2 e3 e4 e5 e6 e7 j1 j2 hb1 k1 px1 px2 py1 py2
  go_wp2_with fail
  refine bodyPost_ret (v := .agg #[.pointer (some ⟨m1,0,none⟩),.pointer (some ⟨m2,0,none⟩)]) (by simp [results,Tryz.results75,go_sem,c0,c1]) rfl ?_
  exact put_c HE.out.2.2 HE.out.1 HE.out.2.1 (by omega)
end Go.Proofs.YtepefgkihnjjaaaGreat
namespace Go.Proofs.YtepefgkihnjjaaaGreat
open Go.RowKit Tr
set_option maxRecDepth 100000 in
set_option maxHeartbeats 3200000 in
theorem PSame_any (x1 y1 x2 y2 : QC) (v v' : Value) (A : Nat → Prop) (w : World) (hv : PQ x1 y1 v w A) (hv' : PQ x2 y2 v' w A) (k l : Nat) (hx1 : ZL x1 k) (hy1 : ZL y1 k) (hx2 : ZL x2 l) (hy2 : ZL y2 l) (hkl : k + l + (k + l) + 1 + (l + k + (l + k) + 1) < 137438953472) (r : Bool) (hr : r = true ↔ x1 * y2 = x2 * y1) :
  Calls Tryz.prog 74 #[v,v'] w fun e w' => e = .returned (.bool r) ∧ Below w.heap.size w w' := by
 have hv := Fact.Keeps.noA (PQ.keeps _ _) hv
 have hv' := Fact.Keeps.noA (PQ.keeps _ _) hv'
 obtain ⟨u1,u2,u3,u4,rfl,g1,g2,g3,g4⟩ := id hv
 obtain ⟨u5,u6,u7,u8,rfl,g5,g6,g7,g8⟩ := id hv'
 obtain ⟨W0,hW0⟩ : ∃ W0,W0 = w.alloc (.cells #[u1,u2,u3,u4] 86) := ⟨_,rfl⟩
 have hz0 : W0.heap.size = w.heap.size + 1 := by rw [hW0]; simp
 obtain ⟨W,hW⟩ : ∃ W,W = W0.alloc (.cells #[u5,u6,u7,u8] 86) := ⟨_,rfl⟩
 have hb0 : Below w.heap.size w W0 := by rw [hW0]; exact br.alloc (Nat.le_refl _) _
 have hb1 : Below W0.heap.size W0 W := by rw [hW]; exact br.alloc (Nat.le_refl _) _
 have hb := hb0.trans (hb1.mono hb0.size)
 obtain ⟨e0,e1,e2,e3,_⟩ := new_four w u1 u2 u3 u4 86 (w1 := W) (by rw [← hW0]; exact hb1)
 obtain ⟨e4,e5,e6,e7,_⟩ := new_four W0 u5 u6 u7 u8 86 (w1 := W) (by rw [← hW]; exact Below.refl _ _)
 rw [hz0] at e4 e5 e6 e7
 have hs2 : w.heap.size + 1 < W.heap.size := by rw [hW]; simp; omega
 have hs1 : w.heap.size < W.heap.size := by omega
 have px1 := Fact.Keeps.below (CQ.keeps x1) hb (show (CQ x1) (.agg #[u1,u2]) w NoA from ⟨_,_,rfl,g1,g2⟩)
 have py1 := Fact.Keeps.below (CQ.keeps y1) hb (show (CQ y1) (.agg #[u3,u4]) w NoA from ⟨_,_,rfl,g3,g4⟩)
 have px2 := Fact.Keeps.below (CQ.keeps x2) hb (show (CQ x2) (.agg #[u5,u6]) w NoA from ⟨_,_,rfl,g5,g6⟩)
 have py2 := Fact.Keeps.below (CQ.keeps y2) hb (show (CQ y2) (.agg #[u7,u8]) w NoA from ⟨_,_,rfl,g7,g8⟩)
 have HV := Lib.hid (And.intro (hW.trans (by rw [hW0])) (And.intro hb hr))
 clear hv hv' hr hb hb0 hb1 hW hW0 hz0 g1 g2 g3 g4 g5 g6 g7 g8
 go_enter Tryz.func74,Tryz.ntmps74
 go_wp2_with fail
 rw [← HV.out.1]
 refine wp_region_inv [(.lit,[]),(.lit,[]),(.lit,[]),(.lit,[]),(.val,[]),(.lit,[]),(.lit,[]),(.lit,[]),(.lit,[]),(.val,[]),(.val,[4,9])]
  (pickF [(4,CQ (x1 * y2)),(9,CQ (x2 * y1)),(10,fun v _ _ => v = .bool r)]) (by kernel_rfl) ?_ ?_ (by simp) (by simp) (by kernel_rfl)
 ·exact keeps_pick (by simp only [List.mem_cons,List.not_mem_nil,or_false]; rintro p (rfl | rfl | rfl); exact CQ.keeps _; exact CQ.keeps _; exact fun _ _ _ _ _ _ _ h => h)
 ·repeat (refine ⟨_,fun f w1 h1 => by (have d0 := ct h1 hs1 e0; have d1 := ct h1 hs1 e1; have d2 := ct h1 hs1 e2; have d3 := ct h1 hs1 e3; have d4 := ct h1 hs2 e4; have d5 := ct h1 hs2 e5; have d6 := ct h1 hs2 e6; have d7 := ct h1 hs2 e7; go_simp; rfl),?_⟩)
  simp only [Act.put,nrA,nrB,nrC,Nat.reduceAdd]
  refine ⟨fun f w1 A1 k1 hA hN hd K hK => by
   go_simp
   refine (QMul_any x1 y2 _ _ A1 w1 (later (CQ.keeps _) px1 k1 hN) (later (CQ.keeps _) py2 k1 hN) hA k l hx1 hy2 (by omega)).mono ?_
   rintro e w' ⟨v,rfl,hb,hr⟩
   exact hK _ _ hb hr,?_⟩
  repeat (refine ⟨_,fun f w1 h1 => by (have d0 := ct h1 hs1 e0; have d1 := ct h1 hs1 e1; have d2 := ct h1 hs1 e2; have d3 := ct h1 hs1 e3; have d4 := ct h1 hs2 e4; have d5 := ct h1 hs2 e5; have d6 := ct h1 hs2 e6; have d7 := ct h1 hs2 e7; go_simp; rfl),?_⟩)
  simp only [Act.put,nrA,nrB,nrC,Nat.reduceAdd]
  refine ⟨fun f w1 A1 k1 hA hN hd K hK => by
   go_simp
   refine (QMul_any x2 y1 _ _ A1 w1 (later (CQ.keeps _) px2 k1 hN) (later (CQ.keeps _) py1 k1 hN) hA l k hx2 hy1 (by omega)).mono ?_
   rintro e w' ⟨v,rfl,hb,hr⟩
   exact hK _ _ hb hr,?_⟩
  simp only [Act.put,nrA,nrB,nrC,Nat.reduceAdd]
  refine ⟨fun f w1 A1 k1 hA hN hd K hK => by
   have i4 : CQ (x1 * y2) (f 4) w1 A1 := hd 4 (by simp)
   have i9 : CQ (x2 * y1) (f 9) w1 A1 := hd 9 (by simp)
   go_simp
   refine (XSame_any _ _ _ _ _ _ A1 w1 i4 i9 _ _ (ZL_mul hx1 hy2).1 (ZL_mul hx1 hy2).2 (ZL_mul hx2 hy1).1 (ZL_mul hx2 hy1).2 hkl r (by rw [HV.out.2.2]; constructor; intro h; rw [h]; exact ⟨rfl,rfl⟩; rintro ⟨h,h'⟩; generalize x1 * y2 = p at *; generalize x2 * y1 = q at *; cases p; cases q; simp_all)).mono ?_
   rintro e w' ⟨rfl,hb⟩
   exact hK _ _ hb rfl,?_⟩
  intro f w1 k1 hF
  have i8 : f 10 = .bool r := hF.2
  clear hF
  simp only [Act.put,nrA,nrB,nrC]
  rw [i8]
  generalize f 4 = z4
  generalize f 9 = z9
  have HB := Lib.hid (HV.out.2.1.trans ((br.drew.trans k1).mono HV.out.2.1.size))
  clear e0 e1 e2 e3 e4 e5 e6 e7 k1 px1 px2 py1 py2 i8
  go_wp2
  go_ret
  exact ⟨rfl,HB.out⟩
set_option maxRecDepth 100000 in
theorem Infinity_any (w : World) : Calls Tryz.prog 53 #[] w fun e w' => e = .returned (.agg #[.bool true,.bool false,.string ⟨#[]⟩,.bool false,.string ⟨#[]⟩,.bool false,.string ⟨#[]⟩,.bool false,.string ⟨#[]⟩]) ∧ Below w.heap.size w w' := by
 have HB := Lib.hid (show Below w.heap.size w (w.alloc (.cells #[.bool true,.bool false,.string ⟨#[]⟩,.bool false,.string ⟨#[]⟩,.bool false,.string ⟨#[]⟩,.bool false,.string ⟨#[]⟩] 29)) from br.alloc (Nat.le_refl _) _)
 go_enter Tryz.func53,Tryz.ntmps53
 go_wp2_with fail
 refine bodyPost_ret (v := .agg #[.bool true,.bool false,.string ⟨#[]⟩,.bool false,.string ⟨#[]⟩,.bool false,.string ⟨#[]⟩,.bool false,.string ⟨#[]⟩]) (by simp [results,Tryz.results53,go_sem]) rfl ⟨rfl,?_⟩
 exact HB.out
end Go.Proofs.YtepefgkihnjjaaaGreat
namespace Go.Proofs.YtepefgkihnjjaaaGreat
open Go.RowKit Tr
theorem sq_nonneg (a : Rat) : 0 ≤ a * a := by
 rcases Rat.nonneg_total a with h | h
 ·exact Rat.mul_nonneg h h
 ·have := Rat.mul_nonneg h h
  rwa [Rat.neg_mul,Rat.mul_neg,Rat.neg_neg] at this
theorem sq_zero {a b : Rat} (h : a * a + b * b = 0) : a = 0 := by
 have h1 : -(a * a) = b * b := by
  have : -(a * a) + (a * a + b * b) = -(a * a) + 0 := by rw [h]
  rw [← Rat.add_assoc,Rat.neg_add_cancel,Rat.zero_add,Rat.add_zero] at this
  exact this.symm
 have h2 := Rat.nonneg_antisymm (sq_nonneg a) (by rw [h1]; exact sq_nonneg b)
 rcases Rat.mul_eq_zero.1 h2 with h | h <;> exact h
theorem norm_zero {a b : Rat} : a * a + b * b = 0 ↔ a = 0 ∧ b = 0 := by
 constructor
 ·intro h; exact ⟨sq_zero h,sq_zero (by rw [Rat.add_comm]; exact h)⟩
 ·rintro ⟨rfl,rfl⟩; decide +kernel
instance : Div QC := ⟨fun x y => ⟨(x.re * y.re - x.im * (-y.im)) * (y.re * y.re + y.im * y.im)⁻¹,(x.re * (-y.im) + x.im * y.re) * (y.re * y.re + y.im * y.im)⁻¹⟩⟩
theorem ZL_div {x y : QC} {k l : Nat} (h0 : y.re * y.re + y.im * y.im ≠ 0) (hx : ZL x k) (hy : ZL y l) : ZL (x / y) (k + l + (k + l) + 1 + (l + l + (l + l) + 1)) := by
 have li : RL (y.re * y.re + y.im * y.im)⁻¹ (l + l + (l + l) + 1) := RL_inv h0 (RL_add (RL_mul hy.1 hy.1) (RL_mul hy.2 hy.2))
 exact ⟨RL_mul (RL_sub (RL_mul hx.1 hy.1) (RL_mul hx.2 (RL_neg hy.2))) li,RL_mul (RL_add (RL_mul hx.1 (RL_neg hy.2)) (RL_mul hx.2 hy.1)) li⟩
def infP : Value := .agg #[.bool true,.bool false,.string ⟨#[]⟩,.bool false,.string ⟨#[]⟩,.bool false,.string ⟨#[]⟩,.bool false,.string ⟨#[]⟩]
def zP : Value := .agg #[.bool false,.bool false,.string ⟨#[]⟩,.bool false,.string ⟨#[]⟩,.bool false,.string ⟨#[]⟩,.bool false,.string ⟨#[]⟩]
def encPt (z : QC) : Value := .agg #[.bool false,.bool (decide (z.re.num < 0)),.string (strN z.re.num.natAbs),.bool false,.string (strN z.re.den),.bool (decide (z.im.num < 0)),.string (strN z.im.num.natAbs),.bool false,.string (strN z.im.den)]
def outP (x y : QC) : Value := if y = ⟨0,0⟩ then infP else if ShortF (x / y).re ∧ ShortF (x / y).im then encPt (x / y) else zP
def outPC (x y : QC) : Int := if y = ⟨0,0⟩ then 0 else if ShortF (x / y).re ∧ ShortF (x / y).im then 0 else 4
theorem new_nine (w : World) (x0 x1 x2 x3 x4 x5 x6 x7 x8 : Value) (T : TypeId) {w1 : World} (h : Below (w.alloc (.cells #[x0,x1,x2,x3,x4,x5,x6,x7,x8] T)).heap.size (w.alloc (.cells #[x0,x1,x2,x3,x4,x5,x6,x7,x8] T)) w1) :
  (w1.cell? ⟨w.heap.size,0,none⟩ = some x0 ∧ w1.cell? ⟨w.heap.size,1,none⟩ = some x1 ∧ w1.cell? ⟨w.heap.size,2,none⟩ = some x2 ∧ w1.cell? ⟨w.heap.size,3,none⟩ = some x3 ∧ w1.cell? ⟨w.heap.size,4,none⟩ = some x4 ∧ w1.cell? ⟨w.heap.size,5,none⟩ = some x5 ∧ w1.cell? ⟨w.heap.size,6,none⟩ = some x6 ∧ w1.cell? ⟨w.heap.size,7,none⟩ = some x7 ∧ w1.cell? ⟨w.heap.size,8,none⟩ = some x8) ∧
  w1.frozen? ⟨w.heap.size,0,none⟩ = false ∧ w1.frozen? ⟨w.heap.size,1,none⟩ = false ∧ w1.frozen? ⟨w.heap.size,2,none⟩ = false ∧ w1.frozen? ⟨w.heap.size,3,none⟩ = false ∧ w1.frozen? ⟨w.heap.size,4,none⟩ = false ∧ w1.frozen? ⟨w.heap.size,5,none⟩ = false ∧ w1.frozen? ⟨w.heap.size,6,none⟩ = false ∧ w1.frozen? ⟨w.heap.size,7,none⟩ = false ∧ w1.frozen? ⟨w.heap.size,8,none⟩ = false := by
 have e := (h.block w.heap.size (by simp)).trans (heap_alloc_new w _)
 simp [World.cell?,World.frozen?,e]
theorem outG_eight (a b : Rat) : ∃ b1 t1 b2 t2 b3 t3 b4 t4,outG a b = .agg #[.bool b1,.string t1,.bool b2,.string t2,.bool b3,.string t3,.bool b4,.string t4] := by
 unfold outG
 split
 ·exact ⟨_,_,_,_,_,_,_,_,rfl⟩
 ·exact ⟨_,_,_,_,_,_,_,_,rfl⟩
theorem outP_short {x y : QC} (h0 : y ≠ ⟨0,0⟩) (hc : outGC (x / y).re (x / y).im = 0) {b1 b2 b3 b4 : Bool} {t1 t2 t3 t4 : ByteArray} (e : outG (x / y).re (x / y).im = .agg #[.bool b1,.string t1,.bool b2,.string t2,.bool b3,.string t3,.bool b4,.string t4]) :
  outP x y = .agg #[.bool false,.bool b1,.string t1,.bool b2,.string t2,.bool b3,.string t3,.bool b4,.string t4] ∧ outPC x y = 0 := by
 have hs : ShortF (x / y).re ∧ ShortF (x / y).im := by
  unfold outGC at hc
  split at hc
  ·assumption
  ·cases hc
 unfold outP outPC
 rw [if_neg h0,if_neg h0,if_pos hs,if_pos hs]
 refine ⟨?_,rfl⟩
 unfold outG encG at e
 rw [if_pos hs] at e
 unfold encPt
 simp only [Value.agg.injEq,Array.mk.injEq,List.cons.injEq,Value.bool.injEq,Value.string.injEq,and_true,true_and] at e ⊢
 exact e
theorem outP_long {x y : QC} (h0 : y ≠ ⟨0,0⟩) (hc : outGC (x / y).re (x / y).im ≠ 0) : outP x y = zP ∧ outPC x y = 4 ∧ outGC (x / y).re (x / y).im = 4 := by
 have hs : ¬ (ShortF (x / y).re ∧ ShortF (x / y).im) := fun h => hc (by unfold outGC; rw [if_pos h])
 unfold outP outPC outGC
 rw [if_neg h0,if_neg h0,if_neg hs,if_neg hs]
 exact ⟨rfl,rfl,rfl⟩
set_option maxRecDepth 100000 in
set_option maxHeartbeats 3200000 in
theorem PPoint_any (x y : QC) (v : Value) (A : Nat → Prop) (w : World) (hv : PQ x y v w A) (k l : Nat) (hx : ZL x k) (hy : ZL y l) (hkl : (k + l + (k + l) + 1) + (l + l + (l + l) + 1) < 137438953472) :
  Calls Tryz.prog 44 #[v] w fun e w' => e = .returned (.tuple #[outP x y,.int .i64 (outPC x y)]) ∧ Below w.heap.size w w' := by
 have hv := Fact.Keeps.noA (PQ.keeps _ _) hv
 obtain ⟨u1,u2,u3,u4,rfl,g1,g2,g3,g4⟩ := id hv
 obtain ⟨W0,hW0⟩ : ∃ W0,W0 = w.alloc (.cells #[u1,u2,u3,u4] 86) := ⟨_,rfl⟩
 have hz0 : W0.heap.size = w.heap.size + 1 := by rw [hW0]; simp
 obtain ⟨W,hW⟩ : ∃ W,W = W0.alloc (.cells #[.bool false,.bool false,.string ⟨#[]⟩,.bool false,.string ⟨#[]⟩,.bool false,.string ⟨#[]⟩,.bool false,.string ⟨#[]⟩] 29) := ⟨_,rfl⟩
 have hb0 : Below w.heap.size w W0 := by rw [hW0]; exact br.alloc (Nat.le_refl _) _
 have hb1 : Below W0.heap.size W0 W := by rw [hW]; exact br.alloc (Nat.le_refl _) _
 have hb := hb0.trans (hb1.mono hb0.size)
 have hlt : w.heap.size < W.heap.size := by have := hb1.size; omega
 have hcs := fun w1 (h : Below W.heap.size W w1) => new_four w u1 u2 u3 u4 86 (w1 := w1) (by rw [← hW0]; exact hb1.trans (h.mono hb1.size))
 have px := Fact.Keeps.below (CQ.keeps x) hb (show (CQ x) (.agg #[u1,u2]) w NoA from ⟨_,_,rfl,g1,g2⟩)
 have py := Fact.Keeps.below (CQ.keeps y) hb (show (CQ y) (.agg #[u3,u4]) w NoA from ⟨_,_,rfl,g3,g4⟩)
 obtain ⟨rz,hrz⟩ : ∃ rz,rz = decide (y.re = 0 ∧ y.im = 0) := ⟨_,rfl⟩
 have HZ := Lib.hid (XZero_any y.re y.im (.agg #[u3,u4]) NoA W py rz (by rw [hrz]; simp))
 have HV := Lib.hid (And.intro (hW.trans (by rw [hW0])) (And.intro hb (And.intro (fun w1 (h : Below W.heap.size W w1) => new_nine W0 _ _ _ _ _ _ _ _ _ _ (w1 := w1) (by rw [← hW]; exact h)) (And.intro hcs (And.intro px py)))))
 rw [hz0] at HV
 obtain ⟨e0,e1,e2,e3,_⟩ := hcs W br
 have HR := Lib.hid hrz
 clear hv hb hb0 hb1 hW hW0 hz0 g1 g2 g3 g4 px py hcs hrz
 go_enter Tryz.func44,Tryz.ntmps44
 go_wp2_with fail
 rw [← HV.out.1]
 go_wp2_with fail
 refine HZ.out.mono ?_
 rintro e w1 ⟨rfl,hb1⟩
 obtain ⟨e0,e1,e2,e3,_⟩ := HV.out.2.2.2.1 w1 hb1
 cases rz
 ·have hne : ¬ (y.re = 0 ∧ y.im = 0) := of_decide_eq_false HR.out.symm
  have hn0 : y.re * y.re + y.im * y.im ≠ 0 := fun h => hne (norm_zero.1 h)
  have hy0 : y ≠ ⟨0,0⟩ := fun h => hne (by rw [h]; exact ⟨rfl,rfl⟩)
  have HD := Lib.hid (XDiv_any x.re x.im y.re y.im _ rfl hn0 (.agg #[u1,u2]) (.agg #[u3,u4]) NoA w1 (CP.below HV.out.2.2.2.2.1 hb1) (CP.below HV.out.2.2.2.2.2 hb1) (rcv_noA _) k l hx.1 hx.2 hy.1 hy.2 hkl)
  have HN := Lib.hid (And.intro hn0 (And.intro hy0 hb1))
  clear hne hn0 hy0 hb1 HZ
  go_wp2_with fail
  refine HD.out.mono ?_
  rintro e w2 ⟨v2,rfl,hb2,hc2⟩
  have hb02 := HN.out.2.2.trans (hb2.mono HN.out.2.2.size)
  have HG := Lib.hid (XGauss_any (x / y).re (x / y).im v2 NoA w2 hc2 ((ZL_div HN.out.1 hx hy).1.mono (by omega)) ((ZL_div HN.out.1 hx hy).2.mono (by omega)))
  obtain ⟨b1,t1,b2,t2,b3,t3,b4,t4,eg⟩ := outG_eight (x / y).re (x / y).im
  obtain ⟨kc,hkc⟩ : ∃ kc,kc = outGC (x / y).re (x / y).im := ⟨_,rfl⟩
  rw [eg,← hkc] at HG
  have HK := Lib.hid (And.intro eg hkc)
  have HB2 := Lib.hid hb02
  clear hc2 hb2 hb02 eg hkc HD e0 e1 e2 e3
  go_wp2_with fail
  refine HG.out.mono ?_
  rintro e w3 ⟨rfl,hb3⟩
  have hbw := HB2.out.trans (hb3.mono HB2.out.size)
  obtain ⟨⟨c0,c1,c2,c3,c4,c5,c6,c7,c8⟩,f0,f1,f2,f3,f4,f5,f6,f7,f8⟩ := HV.out.2.2.1 w3 hbw
  have hn2 : w.heap.size + 1 < w3.heap.size := by
   have h1 := hbw.size
   have h2 : W.heap.size = w.heap.size + 2 := by rw [HV.out.1]; simp
   omega
  have HF := Lib.hid (HV.out.2.1.trans (hbw.mono HV.out.2.1.size))
  clear hb3 hbw HG
  by_cases ck : kc = 0
  ·have HP := Lib.hid (outP_short HN.out.2.1 (HK.out.2.symm.trans ck) HK.out.1)
   subst ck
   go_wp2_with fail
   refine bodyPost_ret (v := .tuple #[.agg #[.bool false,.bool b1,.string t1,.bool b2,.string t2,.bool b3,.string t3,.bool b4,.string t4],.int .i64 0]) (by simp [results,Tryz.results44,go_sem,c0,c1,c2,c3,c4,c5,c6,c7,c8,hn2,cell_alloc_lt]) rfl ⟨by rw [HP.out.1,HP.out.2],?_⟩
   exact Below.alloc (((((((((HF.out.setCell (p := ⟨w.heap.size + 1,0,none⟩) (Nat.le_succ _) _).setCell (p := ⟨w.heap.size + 1,1,none⟩) (Nat.le_succ _) _).setCell (p := ⟨w.heap.size + 1,2,none⟩) (Nat.le_succ _) _).setCell (p := ⟨w.heap.size + 1,3,none⟩) (Nat.le_succ _) _).setCell (p := ⟨w.heap.size + 1,4,none⟩) (Nat.le_succ _) _).setCell (p := ⟨w.heap.size + 1,5,none⟩) (Nat.le_succ _) _).setCell (p := ⟨w.heap.size + 1,6,none⟩) (Nat.le_succ _) _).setCell (p := ⟨w.heap.size + 1,7,none⟩) (Nat.le_succ _) _).setCell (p := ⟨w.heap.size + 1,8,none⟩) (Nat.le_succ _) _) (by simp only [setCell_size]; exact HF.out.size) _
  ·have HP := Lib.hid (outP_long HN.out.2.1 (fun h => ck (HK.out.2.trans h)))
   have hk4 : kc = 4 := HK.out.2.trans HP.out.2.2
   subst hk4
   go_wp2_with fail
   refine bodyPost_ret (v := .tuple #[zP,.int .i64 4]) (by unfold zP; simp [results,Tryz.results44,go_sem,c0,c1,c2,c3,c4,c5,c6,c7,c8,hn2,cell_alloc_lt]) rfl ⟨by rw [HP.out.1,HP.out.2.1],?_⟩
   exact Below.alloc (((((((((HF.out.setCell (p := ⟨w.heap.size + 1,0,none⟩) (Nat.le_succ _) _).setCell (p := ⟨w.heap.size + 1,1,none⟩) (Nat.le_succ _) _).setCell (p := ⟨w.heap.size + 1,2,none⟩) (Nat.le_succ _) _).setCell (p := ⟨w.heap.size + 1,3,none⟩) (Nat.le_succ _) _).setCell (p := ⟨w.heap.size + 1,4,none⟩) (Nat.le_succ _) _).setCell (p := ⟨w.heap.size + 1,5,none⟩) (Nat.le_succ _) _).setCell (p := ⟨w.heap.size + 1,6,none⟩) (Nat.le_succ _) _).setCell (p := ⟨w.heap.size + 1,7,none⟩) (Nat.le_succ _) _).setCell (p := ⟨w.heap.size + 1,8,none⟩) (Nat.le_succ _) _) (by simp only [setCell_size]; exact HF.out.size) _
 ·have hB1 := Lib.hid hb1
  have H1 := Lib.hid (Infinity_any w1)
  clear hb1
  go_wp2_with fail
  refine H1.out.mono ?_
  rintro e w2 ⟨rfl,hb2⟩
  have hbw := hB1.out.trans (hb2.mono hB1.out.size)
  obtain ⟨⟨c0,c1,c2,c3,c4,c5,c6,c7,c8⟩,f0,f1,f2,f3,f4,f5,f6,f7,f8⟩ := HV.out.2.2.1 w2 hbw
  have HF := Lib.hid (HV.out.2.1.trans (hbw.mono HV.out.2.1.size))
  clear hb2 hbw e0 e1 e2 e3
  go_wp2_with fail
  refine bodyPost_ret (v := .tuple #[infP,.int .i64 0]) (by unfold infP; simp [results,Tryz.results44,go_sem,c0,c1,c2,c3,c4,c5,c6,c7,c8]) rfl ⟨?_,?_⟩
  ·have hy0 : y = ⟨0,0⟩ := by
    have := of_decide_eq_true HR.out.symm
    obtain ⟨re,im⟩ := y
    obtain ⟨h1,h2⟩ := this
    simp only at h1 h2
    rw [h1,h2]
   unfold outP outPC
   rw [if_pos hy0,if_pos hy0]
  ·exact (((((((((HF.out.setCell (p := ⟨w.heap.size + 1,0,none⟩) (Nat.le_succ _) _).setCell (p := ⟨w.heap.size + 1,1,none⟩) (Nat.le_succ _) _).setCell (p := ⟨w.heap.size + 1,2,none⟩) (Nat.le_succ _) _).setCell (p := ⟨w.heap.size + 1,3,none⟩) (Nat.le_succ _) _).setCell (p := ⟨w.heap.size + 1,4,none⟩) (Nat.le_succ _) _).setCell (p := ⟨w.heap.size + 1,5,none⟩) (Nat.le_succ _) _).setCell (p := ⟨w.heap.size + 1,6,none⟩) (Nat.le_succ _) _).setCell (p := ⟨w.heap.size + 1,7,none⟩) (Nat.le_succ _) _).setCell (p := ⟨w.heap.size + 1,8,none⟩) (Nat.le_succ _) _)
end Go.Proofs.YtepefgkihnjjaaaGreat
namespace Go.Proofs.YtepefgkihnjjaaaGreat
open Go.RowKit Tr
set_option maxRecDepth 100000 in
set_option maxHeartbeats 1600000 in
theorem SMay_num (n1 n2 n3 n4 : Bool) (s1 s2 s3 s4 : ByteArray) (l1 : s1.size < 274877906944) (l2 : s2.size < 274877906944) (l3 : s3.size < 274877906944) (l4 : s4.size < 274877906944) (w : World) :
  Calls Tryz.prog 21 #[.agg #[.bool false,.bool n1,.string s1,.bool n2,.string s2,.bool n3,.string s3,.bool n4,.string s4]] w fun e w' => e = .returned (.bool (okB n1 n2 s1 s2 && okB n3 n4 s3 s4)) ∧ Below w.heap.size w w' := by
 have H1 := Lib.hid (GMay_any n1 n2 n3 n4 s1 s2 s3 s4 l1 l2 l3 l4 (w.alloc (.cells #[.bool false,.bool n1,.string s1,.bool n2,.string s2,.bool n3,.string s3,.bool n4,.string s4] 29)))
 have HA := Lib.hid (show Below w.heap.size w (w.alloc (.cells #[.bool false,.bool n1,.string s1,.bool n2,.string s2,.bool n3,.string s3,.bool n4,.string s4] 29)) from br.alloc (Nat.le_refl _) _)
 obtain ⟨r,hr⟩ : ∃ r,r = (okB n1 n2 s1 s2 && okB n3 n4 s3 s4) := ⟨_,rfl⟩
 rw [← hr] at H1 ⊢
 clear hr
 go_enter Tryz.func21,Tryz.ntmps21
 go_wp2_with fail
 refine H1.out.mono ?_
 rintro e w1 ⟨rfl,hb1⟩
 have HB := Lib.hid (HA.out.trans (hb1.mono (by simp)))
 clear hb1
 go_wp2
 go_ret
 exact ⟨rfl,HB.out⟩
set_option maxRecDepth 100000 in
set_option maxHeartbeats 1600000 in
theorem SMay_inf (n1 n2 n3 n4 : Bool) (s1 s2 s3 s4 : ByteArray) (r : Bool) (hr : r = true ↔ .agg #[.bool true,.bool n1,.string s1,.bool n2,.string s2,.bool n3,.string s3,.bool n4,.string s4] = infP) (w : World) :
    Calls Tryz.prog 21 #[.agg #[.bool true,.bool n1,.string s1,.bool n2,.string s2,.bool n3,.string s3,.bool n4,.string s4]] w fun e w' => e = .returned (.bool r) ∧ Below w.heap.size w w' := by
  obtain ⟨W,hW⟩ : ∃ W,W = w.alloc (.cells #[.bool true,.bool n1,.string s1,.bool n2,.string s2,.bool n3,.string s3,.bool n4,.string s4] 29) := ⟨_,rfl⟩
  obtain ⟨⟨e0,e1,e2,e3,e4,e5,e6,e7,e8⟩,_⟩ := new_nine w (.bool true) (.bool n1) (.string s1) (.bool n2) (.string s2) (.bool n3) (.string s3) (.bool n4) (.string s4) 29 br
  rw [← hW] at e0 e1 e2 e3 e4 e5 e6 e7 e8
  have hs : w.heap.size < W.heap.size := by rw [hW]; simp
  have hb : Below w.heap.size w W := by rw [hW]; exact br.alloc (Nat.le_refl _) _
  have HV := Lib.hid (And.intro hW (And.intro hb hr))
  clear hW hb hr
  go_enter Tryz.func21,Tryz.ntmps21
  go_wp2_with fail
  rw [← HV.out.1]
  try go_wp2_with fail
  refine wp_region_inv [(.lit,[]),(.val,[])]
    (pickF [(1,fun v _ _ => v = .agg #[.bool true,.bool false,.string ⟨#[]⟩,.bool false,.string ⟨#[]⟩,.bool false,.string ⟨#[]⟩,.bool false,.string ⟨#[]⟩])]) (by kernel_rfl) ?_ ?_ (by simp) (by simp) (by kernel_rfl)
  · exact keeps_pick (by simp only [List.mem_cons,List.not_mem_nil,or_false]; rintro p rfl; exact fun _ _ _ _ _ _ _ h => h)
  · refine ⟨_,fun f w1 h1 => by (have d0 := ct h1 hs e0; have d1 := ct h1 hs e1; have d2 := ct h1 hs e2; have d3 := ct h1 hs e3; have d4 := ct h1 hs e4; have d5 := ct h1 hs e5; have d6 := ct h1 hs e6; have d7 := ct h1 hs e7; have d8 := ct h1 hs e8; go_simp; rfl),?_⟩
    simp only [Act.put,nrA,nrB,nrC,Nat.reduceAdd]
    refine ⟨fun f w1 A1 k1 hA hN hd K hK => by
      go_simp
      refine (Infinity_any w1).mono ?_
      rintro e w' ⟨rfl,hb⟩
      exact hK _ _ hb rfl,?_⟩
    intro f w1 k1 hF
    have i2 : f 1 = .agg #[.bool true,.bool false,.string ⟨#[]⟩,.bool false,.string ⟨#[]⟩,.bool false,.string ⟨#[]⟩,.bool false,.string ⟨#[]⟩] := hF.2
    clear hF
    simp only [Act.put,nrA,nrB,nrC]
    obtain ⟨t0,ht0⟩ : ∃ t0 : ByteArray,t0 = ⟨#[]⟩ := ⟨_,rfl⟩
    rw [← ht0] at i2
    rw [i2]
    clear i2
    have HT := Lib.hid ht0
    clear ht0
    have HB := Lib.hid (HV.out.2.1.trans ((br.drew.trans k1).mono HV.out.2.1.size))
    clear k1 e0 e1 e2 e3 e4 e5 e6 e7 e8
    go_wp2
    all_goals (
      go_ret
      refine ⟨?_,HB.out⟩
      have hre := HV.out.2.2
      unfold infP at hre
      rw [← HT.out] at hre
      simp only [Value.agg.injEq,Array.mk.injEq,List.cons.injEq,Value.bool.injEq,Value.string.injEq,and_true,true_and] at hre
      simp only [toL_iff] at *
      first
        | (have hr : r = true := hre.2 (by simp [*])
           rw [hr]; rfl)
        | (have hr : r = false := by
             cases h : r
             · rfl
             · obtain ⟨a,b,c,d,e,f,g,h⟩ := hre.1 h
               exfalso
               subst_vars
               contradiction
           rw [hr]; rfl))
end Go.Proofs.YtepefgkihnjjaaaGreat
namespace Go.Proofs.YtepefgkihnjjaaaGreat
open Go.RowKit Tr
theorem lbox (w : World) (p1 p2 p3 p4 q1 q2 q3 q4 s1 s2 s3 s4 a1 a2 b1 b2 : Value) (A : Nat → Prop) (hA : Rcv A w) :
  ∃ W,Hid (W = (((((w.alloc (.cells #[p1,p2,p3,p4] 86)).alloc (.cells #[q1,q2,q3,q4] 86)).alloc (.cells #[s1,s2,s3,s4] 86)).alloc (.cells #[a1,a2] 83)).alloc (.cells #[b1,b2] 83)).alloc (.cells #[.pointer none,.pointer none,.pointer none,.pointer none] 86) ∧ Below w.heap.size w W ∧ Rcv (Mo A (w.heap.size + 5)) W ∧ W.heap.size = w.heap.size + 6 ∧ ∀ w1,Below W.heap.size W w1 → (w1.cell? ⟨w.heap.size + 5,0,none⟩ = some (.pointer none) ∧ w1.cell? ⟨w.heap.size + 5,1,none⟩ = some (.pointer none) ∧ w1.cell? ⟨w.heap.size + 5,2,none⟩ = some (.pointer none) ∧ w1.cell? ⟨w.heap.size + 5,3,none⟩ = some (.pointer none) ∧ w1.frozen? ⟨w.heap.size + 5,0,none⟩ = false ∧ w1.frozen? ⟨w.heap.size + 5,1,none⟩ = false ∧ w1.frozen? ⟨w.heap.size + 5,2,none⟩ = false ∧ w1.frozen? ⟨w.heap.size + 5,3,none⟩ = false) ∧
   (w1.cell? ⟨w.heap.size,0,none⟩ = some p1 ∧ w1.cell? ⟨w.heap.size,1,none⟩ = some p2 ∧ w1.cell? ⟨w.heap.size,2,none⟩ = some p3 ∧ w1.cell? ⟨w.heap.size,3,none⟩ = some p4) ∧
   (w1.cell? ⟨w.heap.size + 1,0,none⟩ = some q1 ∧ w1.cell? ⟨w.heap.size + 1,1,none⟩ = some q2 ∧ w1.cell? ⟨w.heap.size + 1,2,none⟩ = some q3 ∧ w1.cell? ⟨w.heap.size + 1,3,none⟩ = some q4) ∧
   (w1.cell? ⟨w.heap.size + 2,0,none⟩ = some s1 ∧ w1.cell? ⟨w.heap.size + 2,1,none⟩ = some s2 ∧ w1.cell? ⟨w.heap.size + 2,2,none⟩ = some s3 ∧ w1.cell? ⟨w.heap.size + 2,3,none⟩ = some s4) ∧
   (w1.cell? ⟨w.heap.size + 3,0,none⟩ = some a1 ∧ w1.cell? ⟨w.heap.size + 3,1,none⟩ = some a2) ∧ w1.cell? ⟨w.heap.size + 4,0,none⟩ = some b1 ∧ w1.cell? ⟨w.heap.size + 4,1,none⟩ = some b2) := by
 obtain ⟨w1,hw1⟩ : ∃ w1,w1 = w.alloc (.cells #[p1,p2,p3,p4] 86) := ⟨_,rfl⟩
 have hz1 : w1.heap.size = w.heap.size + 1 := by rw [hw1]; simp
 obtain ⟨w2,hw2⟩ : ∃ w2,w2 = w1.alloc (.cells #[q1,q2,q3,q4] 86) := ⟨_,rfl⟩
 have hz2 : w2.heap.size = w.heap.size + 2 := by rw [hw2]; simp [hz1]
 obtain ⟨w3,hw3⟩ : ∃ w3,w3 = w2.alloc (.cells #[s1,s2,s3,s4] 86) := ⟨_,rfl⟩
 have hz3 : w3.heap.size = w.heap.size + 3 := by rw [hw3]; simp [hz2]
 obtain ⟨w4,hw4⟩ : ∃ w4,w4 = w3.alloc (.cells #[a1,a2] 83) := ⟨_,rfl⟩
 have hz4 : w4.heap.size = w.heap.size + 4 := by rw [hw4]; simp [hz3]
 obtain ⟨w5,hw5⟩ : ∃ w5,w5 = w4.alloc (.cells #[b1,b2] 83) := ⟨_,rfl⟩
 have hz5 : w5.heap.size = w.heap.size + 5 := by rw [hw5]; simp [hz4]
 obtain ⟨w6,hw6⟩ : ∃ w6,w6 = w5.alloc (.cells #[.pointer none,.pointer none,.pointer none,.pointer none] 86) := ⟨_,rfl⟩
 have hz6 : w6.heap.size = w.heap.size + 6 := by rw [hw6]; simp [hz5]
 have hb01 : Below w.heap.size w w1 := by rw [hw1]; exact br.alloc (Nat.le_refl _) _
 have hb12 : Below w1.heap.size w1 w2 := by rw [hw2]; exact br.alloc (Nat.le_refl _) _
 have hb23 : Below w2.heap.size w2 w3 := by rw [hw3]; exact br.alloc (Nat.le_refl _) _
 have hb34 : Below w3.heap.size w3 w4 := by rw [hw4]; exact br.alloc (Nat.le_refl _) _
 have hb45 : Below w4.heap.size w4 w5 := by rw [hw5]; exact br.alloc (Nat.le_refl _) _
 have hb56 : Below w5.heap.size w5 w6 := by rw [hw6]; exact br.alloc (Nat.le_refl _) _
 have hb46 := hb45.trans (hb56.mono hb45.size)
 have hb36 := hb34.trans (hb46.mono hb34.size)
 have hb26 := hb23.trans (hb36.mono hb23.size)
 have hb16 := hb12.trans (hb26.mono hb12.size)
 have hb : Below w.heap.size w w6 := hb01.trans (hb16.mono hb01.size)
 have hn := heap_alloc_new w5 (.cells #[.pointer none,.pointer none,.pointer none,.pointer none] 86 (0,0))
 rw [hz5] at hn
 refine ⟨w6,Lib.hid ⟨by rw [hw6,hw5,hw4,hw3,hw2,hw1],hb,fun b h => h.elim (fun h => (hA.below hb) b h) (fun h => by subst h; rw [← hw6] at hn; exact ⟨_,hn,noW_p _⟩),hz6,fun w' h => ?_⟩⟩
 have r0 := new_four w p1 p2 p3 p4 86 (w1 := w') (by rw [← hw1]; exact hb16.trans (h.mono hb16.size))
 have r1 := new_four w1 q1 q2 q3 q4 86 (w1 := w') (by rw [← hw2]; exact hb26.trans (h.mono hb26.size))
 have r2 := new_four w2 s1 s2 s3 s4 86 (w1 := w') (by rw [← hw3]; exact hb36.trans (h.mono hb36.size))
 have r3 := new_two w3 a1 a2 83 (w1 := w') (by rw [← hw4]; exact hb46.trans (h.mono hb46.size))
 have r4 := new_two w4 b1 b2 83 (w1 := w') (by rw [← hw5]; exact hb56.trans (h.mono hb56.size))
 have r5 := new_four w5 (.pointer none) (.pointer none) (.pointer none) (.pointer none) 86 (w1 := w') (by rw [← hw6]; exact h)
 rw [hz1] at r1
 rw [hz2] at r2
 rw [hz3] at r3
 rw [hz4] at r4
 rw [hz5] at r5
 exact ⟨r5,⟨r0.1,r0.2.1,r0.2.2.1,r0.2.2.2.1⟩,⟨r1.1,r1.2.1,r1.2.2.1,r1.2.2.2.1⟩,⟨r2.1,r2.2.1,r2.2.2.1,r2.2.2.2.1⟩,⟨r3.1,r3.2.1⟩,r4.1,r4.2.1⟩
end Go.Proofs.YtepefgkihnjjaaaGreat
