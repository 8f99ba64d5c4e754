/- Laws for the walk. -/
import Derived.Test.YtepefgkihnjjaaaGreatZzz
import Derived.Test.YtepefgkihnjjaaaGreatZar
import Derived.Test.YtepefgkihnjjaaaGreatZas
import Derived.Test.YtepefgkihnjjaaaGreatZat
import Derived.Test.YtepefgkihnjjaaaGreatZbb
import Derived.Test.YtepefgkihnjjaaaGreatZbc
set_option linter.unusedVariables false
namespace Go.Proofs.YtepefgkihnjjaaaGreat
open Go.RowKit Tr
set_option maxRecDepth 100000 in
set_option maxHeartbeats 6400000 in
theorem first_any (m : Nat) (c0 c1 c2 c3 c4 c5 c6 c7 c8 c9 c10 c11 c12 c13 c14 c15 c16 c17 c18 c19 c20 c21 c22 c23 c24 c25 c26 c27 c28 c29 c30 c31 c32 c33 : Option Addr) (w : World) (hm : w.heap[m]? = some (.cells #[.pointer c0,.pointer c1,.pointer c2,.pointer c3,.pointer c4,.pointer c5,.pointer c6,.pointer c7,.pointer c8,.pointer c9,.pointer c10,.pointer c11,.pointer c12,.pointer c13,.pointer c14,.pointer c15,.pointer c16,.pointer c17,.pointer c18,.pointer c19,.pointer c20,.pointer c21,.pointer c22,.pointer c23,.pointer c24,.pointer c25,.pointer c26,.pointer c27,.pointer c28,.pointer c29,.pointer c30,.pointer c31,.pointer c32,.pointer c33] 89 (0,0))) (x0 y0 x1 y1 x2 y2 a b : QC)
  (hp : PQ x0 y0 (.agg #[.pointer c4,.pointer c5,.pointer c6,.pointer c7]) w NoA) (hq : PQ x1 y1 (.agg #[.pointer c22,.pointer c23,.pointer c24,.pointer c25]) w NoA) (hs : PQ x2 y2 (.agg #[.pointer c26,.pointer c27,.pointer c28,.pointer c29]) w NoA) (ha : CQ a (.agg #[.pointer c18,.pointer c19]) w NoA) (hb : CQ b (.agg #[.pointer c20,.pointer c21]) w NoA)
  (hx0 : ZL x0 1000000) (hy0 : ZL y0 1000000) (hx1 : ZL x1 1000000) (hy1 : ZL y1 1000000) (hx2 : ZL x2 1000000) (hy2 : ZL y2 1000000) (hza : ZL a 1000000) (hzb : ZL b 1000000) :
  Calls Tryz.prog 41 #[.pointer (some ⟨m,0,none⟩)] w fun e w' => ∃ v,e = .returned v ∧ Below w.heap.size w w' ∧ Tup (PZ (lastBad x0 y0 x1 y1 x2 y2) (lastX x0 y0 x1 y1 x2 y2 a b) (lastY x0 y0 x1 y1 x2 y2 a b)) (lastC x0 y0 x1 y1 x2 y2) v w' NoA := by
 have hlt : m < w.heap.size := (Array.getElem?_eq_some_iff.1 hm).1
 obtain ⟨W,hW⟩ : ∃ W,W = w.alloc (.cells #[.pointer none,.pointer none,.pointer none,.pointer none] 86) := ⟨_,rfl⟩
 have hbW : Below w.heap.size w W := by rw [hW]; exact br.alloc (Nat.le_refl _) _
 have hgW : W.heap[w.heap.size]? = some (.cells #[.pointer none,.pointer none,.pointer none,.pointer none] 86 (0,0)) := by rw [hW]; exact heap_alloc_new w _
 have hsW : w.heap.size < W.heap.size := by rw [hW]; simp
 have hg : W.drew.heap[m]? = some (.cells #[.pointer c0,.pointer c1,.pointer c2,.pointer c3,.pointer c4,.pointer c5,.pointer c6,.pointer c7,.pointer c8,.pointer c9,.pointer c10,.pointer c11,.pointer c12,.pointer c13,.pointer c14,.pointer c15,.pointer c16,.pointer c17,.pointer c18,.pointer c19,.pointer c20,.pointer c21,.pointer c22,.pointer c23,.pointer c24,.pointer c25,.pointer c26,.pointer c27,.pointer c28,.pointer c29,.pointer c30,.pointer c31,.pointer c32,.pointer c33] 89 (0,0)) := (hbW.block m hlt).trans hm
 have hm1 : m < W.drew.heap.size := Nat.lt_of_lt_of_le hlt hbW.size
 have HR : Rcv (Mo NoA w.heap.size) W := rcv_more (rcv_noA w) hbW hgW (noW_p _)
 have HP := Lib.hid (And.intro (new_more (PQ.keeps _ _) (n := w.heap.size) hbW (Nat.le_refl _) hp) (And.intro (new_more (PQ.keeps _ _) (n := w.heap.size) hbW (Nat.le_refl _) hq) (And.intro (new_more (PQ.keeps _ _) (n := w.heap.size) hbW (Nat.le_refl _) hs) (And.intro (new_more (CQ.keeps _) (n := w.heap.size) hbW (Nat.le_refl _) ha) (new_more (CQ.keeps _) (n := w.heap.size) hbW (Nat.le_refl _) hb)))))
 have HL := Lib.hid (And.intro hx0 (And.intro hy0 (And.intro hx1 (And.intro hy1 (And.intro hx2 (And.intro hy2 (And.intro hza hzb)))))))
 have HW := Lib.hid (And.intro hW (And.intro hbW (And.intro hgW hsW)))
 obtain ⟨kc,hkc⟩ : ∃ kc,kc = lastC x0 y0 x1 y1 x2 y2 := ⟨_,rfl⟩
 rw [← hkc]
 have HK := Lib.hid hkc
 obtain ⟨bd,hbd⟩ : ∃ bd,bd = lastBad x0 y0 x1 y1 x2 y2 := ⟨_,rfl⟩
 rw [← hbd]
 have HB := Lib.hid hbd
 obtain ⟨X,hX⟩ : ∃ X,X = lastX x0 y0 x1 y1 x2 y2 a b := ⟨_,rfl⟩
 obtain ⟨Y,hY⟩ : ∃ Y,Y = lastY x0 y0 x1 y1 x2 y2 a b := ⟨_,rfl⟩
 rw [← hX,← hY]
 have HXY := Lib.hid (And.intro hX hY)
 clear hm hp hq hs ha hb hx0 hy0 hx1 hy1 hx2 hy2 hza hzb hW hbW hgW hsW hkc hbd hX hY
 go_enter Tryz.func41,Tryz.ntmps41
 go_wp2_with fail
 rw [← HW.out.1]
 refine wp_region_swap 23 24 _ (by simp only [withEdge,edged]; rfl) [(.lit,[]),(.lit,[]),(.lit,[]),(.lit,[]),(.lit,[]),(.lit,[]),(.lit,[]),(.lit,[]),(.lit,[]),(.lit,[]),(.lit,[]),(.lit,[]),(.lit,[]),(.lit,[]),(.lit,[]),(.lit,[]),(.lit,[]),(.lit,[]),(.lit,[]),(.lit,[]),(.lit,[]),(.val,[]),(.val,[21]),(.val,[21])]
  (pickF [(21,FactU (Mo NoA w.heap.size) (Tup (PZ bd X Y) kc)),(22,FactU (Mo NoA w.heap.size) (PZ bd X Y)),(23,fun v _ _ => v = .int .i64 kc)]) (by kernel_rfl) (by kernel_rfl) ?_ ?_ (by simp) (by simp) (by kernel_rfl)
 ·exact keeps_pick (by
   simp only [List.mem_cons,List.not_mem_nil,or_false]
   rintro p (rfl | rfl | rfl)
   ·exact FactU.keeps (Tup.keeps (PZ.keeps _ _ _) _)
   ·exact FactU.keeps (PZ.keeps _ _ _)
   ·exact keeps_pure _)
 ·refine ⟨_,fun f w1 h1 => by (go_simp; rfl),?_⟩
  refine ⟨_,fun f w1 h1 => by (go_simp; rfl),?_⟩
  refine ⟨_,fun f w1 h1 => by (go_simp; rfl),?_⟩
  refine ⟨_,fun f w1 h1 => by (go_simp; rfl),?_⟩
  simp only [Act.put,nrA,nrB,nrC,Nat.reduceAdd]
  refine ⟨_,fun f w1 h1 => exec_load_part 86 _ rfl m 4 rfl 89 _ #[.pointer c4,.pointer c5,.pointer c6,.pointer c7] (0,0) _ ((h1.block m hm1).trans hg) Tryz.underlying86 rfl (by kernel_rfl) (by kernel_rfl),?_⟩
  simp only [Act.put,nrA,nrB,nrC,Nat.reduceAdd]
  refine ⟨_,fun f w1 h1 => by (go_simp; rfl),?_⟩
  refine ⟨_,fun f w1 h1 => by (go_simp; rfl),?_⟩
  refine ⟨_,fun f w1 h1 => by (go_simp; rfl),?_⟩
  simp only [Act.put,nrA,nrB,nrC,Nat.reduceAdd]
  refine ⟨_,fun f w1 h1 => exec_load_part 86 _ rfl m 22 rfl 89 _ #[.pointer c22,.pointer c23,.pointer c24,.pointer c25] (0,0) _ ((h1.block m hm1).trans hg) Tryz.underlying86 rfl (by kernel_rfl) (by kernel_rfl),?_⟩
  simp only [Act.put,nrA,nrB,nrC,Nat.reduceAdd]
  refine ⟨_,fun f w1 h1 => by (go_simp; rfl),?_⟩
  refine ⟨_,fun f w1 h1 => by (go_simp; rfl),?_⟩
  refine ⟨_,fun f w1 h1 => by (go_simp; rfl),?_⟩
  simp only [Act.put,nrA,nrB,nrC,Nat.reduceAdd]
  refine ⟨_,fun f w1 h1 => exec_load_part 86 _ rfl m 26 rfl 89 _ #[.pointer c26,.pointer c27,.pointer c28,.pointer c29] (0,0) _ ((h1.block m hm1).trans hg) Tryz.underlying86 rfl (by kernel_rfl) (by kernel_rfl),?_⟩
  simp only [Act.put,nrA,nrB,nrC,Nat.reduceAdd]
  refine ⟨_,fun f w1 h1 => by (go_simp; rfl),?_⟩
  refine ⟨_,fun f w1 h1 => by (go_simp; rfl),?_⟩
  refine ⟨_,fun f w1 h1 => by (go_simp; rfl),?_⟩
  simp only [Act.put,nrA,nrB,nrC,Nat.reduceAdd]
  refine ⟨_,fun f w1 h1 => exec_load_part 83 _ rfl m 18 rfl 89 _ #[.pointer c18,.pointer c19] (0,0) _ ((h1.block m hm1).trans hg) Tryz.underlying83 rfl (by kernel_rfl) (by kernel_rfl),?_⟩
  simp only [Act.put,nrA,nrB,nrC,Nat.reduceAdd]
  refine ⟨_,fun f w1 h1 => by (go_simp; rfl),?_⟩
  refine ⟨_,fun f w1 h1 => by (go_simp; rfl),?_⟩
  refine ⟨_,fun f w1 h1 => by (go_simp; rfl),?_⟩
  simp only [Act.put,nrA,nrB,nrC,Nat.reduceAdd]
  refine ⟨_,fun f w1 h1 => exec_load_part 83 _ rfl m 20 rfl 89 _ #[.pointer c20,.pointer c21] (0,0) _ ((h1.block m hm1).trans hg) Tryz.underlying83 rfl (by kernel_rfl) (by kernel_rfl),?_⟩
  simp only [Act.put,nrA,nrB,nrC,Nat.reduceAdd]
  refine ⟨fun f w1 A1 k1 hA hN hd K hK => by
   go_simp
   refine (last_any x0 y0 x1 y1 x2 y2 a b _ _ _ _ _ (Un (Mo NoA w.heap.size) A1) w1 (rcv_un (HR.below (br.drew.trans k1)) hA) (later (FactU.keeps (PQ.keeps _ _)) HP.out.1 k1 hN) (later (FactU.keeps (PQ.keeps _ _)) HP.out.2.1 k1 hN) (later (FactU.keeps (PQ.keeps _ _)) HP.out.2.2.1 k1 hN) (later (FactU.keeps (CQ.keeps _)) HP.out.2.2.2.1 k1 hN) (later (FactU.keeps (CQ.keeps _)) HP.out.2.2.2.2 k1 hN) 1000000 (by decide) HL.out.1 HL.out.2.1 HL.out.2.2.1 HL.out.2.2.2.1 HL.out.2.2.2.2.1 HL.out.2.2.2.2.2.1 HL.out.2.2.2.2.2.2.1 HL.out.2.2.2.2.2.2.2).mono ?_
   rintro e w' ⟨v,rfl,hb,hr⟩
   exact hK _ _ hb (by rw [HB.out,HXY.out.1,HXY.out.2,HK.out]; exact hr),?_⟩
  simp only [Act.put,nrA,nrB,nrC,Nat.reduceAdd]
  refine ⟨fun f w1 A1 k1 hA hN hd K hK => by
   obtain ⟨u,e,hu⟩ : Tup (PZ bd X Y) kc (f 21) w1 (Un (Mo NoA w.heap.size) A1) := hd 21 (by simp)
   simp only [e] at hK ⊢
   go_simp
   exact hK _ _ br hu,?_⟩
  simp only [Act.put,nrA,nrB,nrC,Nat.reduceAdd]
  refine ⟨fun f w1 A1 k1 hA hN hd K hK => by
   obtain ⟨u,e,hu⟩ : Tup (PZ bd X Y) kc (f 21) w1 (Un (Mo NoA w.heap.size) A1) := hd 21 (by simp)
   simp only [e] at hK ⊢
   go_simp
   exact hK _ _ br rfl,?_⟩
  intro f w1 A1 k1 hA1 hfr hap hF
  have iC : f 23 = .int .i64 kc := hF.2
  have iP : FactU (Mo NoA w.heap.size) (PZ bd X Y) (f 22) w1 A1 := hF.1.2
  obtain ⟨v1,v2,v3,v4,e22⟩ := pz_agg iP
  rw [e22] at iP
  clear hF hap
  simp only [Act.put]
  rw [iC,e22]
  generalize f 21 = z21
  have iP := FactU.done (PZ.keeps _ _ _) (Fact.Keeps.noA (FactU.keeps (PZ.keeps _ _ _)) iP)
  have hb1 : Below W.heap.size W w1 := br.drew.trans k1
  have hz : w1.heap[w.heap.size]? = some (.cells #[.pointer none,.pointer none,.pointer none,.pointer none] 86 (0,0)) := (hb1.block _ HW.out.2.2.2).trans HW.out.2.2.1
  obtain ⟨k0,k1',k2,k3,f0,f1',f2,f3⟩ := cell_four hz
  have HZ := Lib.hid (set4_block (x0 := .pointer v1) (x1 := .pointer v2) (x2 := .pointer v3) (x3 := .pointer v4) hz)
  have HB1 := Lib.hid (HW.out.2.1.trans (hb1.mono HW.out.2.1.size))
  have HE := Lib.hid iP
  clear iC iP e22 hb1 hz k1 hA1 hfr hg hm1 HR
  go_wp2_with fail
  refine onlyN_normal ?_
  go_wp2_with fail
  have r0 := HZ.out
  refine bodyPost_ret (v := .tuple #[.agg #[.pointer v1,.pointer v2,.pointer v3,.pointer v4],.int .i64 kc]) (by simp [results,Tryz.results41,go_sem,World.cell?,r0]) rfl ⟨_,rfl,?_,_,rfl,?_⟩
  ·exact (((HB1.out.setCell (p := ⟨w.heap.size,0,none⟩) (Nat.le_refl _) _).setCell (p := ⟨w.heap.size,1,none⟩) (Nat.le_refl _) _).setCell (p := ⟨w.heap.size,2,none⟩) (Nat.le_refl _) _).setCell (p := ⟨w.heap.size,3,none⟩) (Nat.le_refl _) _
  ·exact less_of (PZ.keeps _ _ _) (keep_at (PZ.keeps _ _ _) (.inr rfl) (keep_at (PZ.keeps _ _ _) (.inr rfl) (keep_at (PZ.keeps _ _ _) (.inr rfl) (keep_at (PZ.keeps _ _ _) (.inr rfl) HE.out)))) (fun b h => h.elim)
set_option maxRecDepth 100000 in
set_option maxHeartbeats 6400000 in
theorem second_any (m : Nat) (c0 c1 c2 c3 c4 c5 c6 c7 c8 c9 c10 c11 c12 c13 c14 c15 c16 c17 c18 c19 c20 c21 c22 c23 c24 c25 c26 c27 c28 c29 c30 c31 c32 c33 : Option Addr) (w : World) (hm : w.heap[m]? = some (.cells #[.pointer c0,.pointer c1,.pointer c2,.pointer c3,.pointer c4,.pointer c5,.pointer c6,.pointer c7,.pointer c8,.pointer c9,.pointer c10,.pointer c11,.pointer c12,.pointer c13,.pointer c14,.pointer c15,.pointer c16,.pointer c17,.pointer c18,.pointer c19,.pointer c20,.pointer c21,.pointer c22,.pointer c23,.pointer c24,.pointer c25,.pointer c26,.pointer c27,.pointer c28,.pointer c29,.pointer c30,.pointer c31,.pointer c32,.pointer c33] 89 (0,0))) (x0 y0 x1 y1 x2 y2 a b : QC)
  (hp : PQ x0 y0 (.agg #[.pointer c8,.pointer c9,.pointer c10,.pointer c11]) w NoA) (hq : PQ x1 y1 (.agg #[.pointer c22,.pointer c23,.pointer c24,.pointer c25]) w NoA) (hs : PQ x2 y2 (.agg #[.pointer c30,.pointer c31,.pointer c32,.pointer c33]) w NoA) (ha : CQ a (.agg #[.pointer c16,.pointer c17]) w NoA) (hb : CQ b (.agg #[.pointer c20,.pointer c21]) w NoA)
  (hx0 : ZL x0 1000000) (hy0 : ZL y0 1000000) (hx1 : ZL x1 1000000) (hy1 : ZL y1 1000000) (hx2 : ZL x2 1000000) (hy2 : ZL y2 1000000) (hza : ZL a 1000000) (hzb : ZL b 1000000) :
  Calls Tryz.prog 42 #[.pointer (some ⟨m,0,none⟩)] w fun e w' => ∃ v,e = .returned v ∧ Below w.heap.size w w' ∧ Tup (PZ (lastBad x0 y0 x1 y1 x2 y2) (lastX x0 y0 x1 y1 x2 y2 a b) (lastY x0 y0 x1 y1 x2 y2 a b)) (lastC x0 y0 x1 y1 x2 y2) v w' NoA := by
 have hlt : m < w.heap.size := (Array.getElem?_eq_some_iff.1 hm).1
 obtain ⟨W,hW⟩ : ∃ W,W = w.alloc (.cells #[.pointer none,.pointer none,.pointer none,.pointer none] 86) := ⟨_,rfl⟩
 have hbW : Below w.heap.size w W := by rw [hW]; exact br.alloc (Nat.le_refl _) _
 have hgW : W.heap[w.heap.size]? = some (.cells #[.pointer none,.pointer none,.pointer none,.pointer none] 86 (0,0)) := by rw [hW]; exact heap_alloc_new w _
 have hsW : w.heap.size < W.heap.size := by rw [hW]; simp
 have hg : W.drew.heap[m]? = some (.cells #[.pointer c0,.pointer c1,.pointer c2,.pointer c3,.pointer c4,.pointer c5,.pointer c6,.pointer c7,.pointer c8,.pointer c9,.pointer c10,.pointer c11,.pointer c12,.pointer c13,.pointer c14,.pointer c15,.pointer c16,.pointer c17,.pointer c18,.pointer c19,.pointer c20,.pointer c21,.pointer c22,.pointer c23,.pointer c24,.pointer c25,.pointer c26,.pointer c27,.pointer c28,.pointer c29,.pointer c30,.pointer c31,.pointer c32,.pointer c33] 89 (0,0)) := (hbW.block m hlt).trans hm
 have hm1 : m < W.drew.heap.size := Nat.lt_of_lt_of_le hlt hbW.size
 have HR : Rcv (Mo NoA w.heap.size) W := rcv_more (rcv_noA w) hbW hgW (noW_p _)
 have HP := Lib.hid (And.intro (new_more (PQ.keeps _ _) (n := w.heap.size) hbW (Nat.le_refl _) hp) (And.intro (new_more (PQ.keeps _ _) (n := w.heap.size) hbW (Nat.le_refl _) hq) (And.intro (new_more (PQ.keeps _ _) (n := w.heap.size) hbW (Nat.le_refl _) hs) (And.intro (new_more (CQ.keeps _) (n := w.heap.size) hbW (Nat.le_refl _) ha) (new_more (CQ.keeps _) (n := w.heap.size) hbW (Nat.le_refl _) hb)))))
 have HL := Lib.hid (And.intro hx0 (And.intro hy0 (And.intro hx1 (And.intro hy1 (And.intro hx2 (And.intro hy2 (And.intro hza hzb)))))))
 have HW := Lib.hid (And.intro hW (And.intro hbW (And.intro hgW hsW)))
 obtain ⟨kc,hkc⟩ : ∃ kc,kc = lastC x0 y0 x1 y1 x2 y2 := ⟨_,rfl⟩
 rw [← hkc]
 have HK := Lib.hid hkc
 obtain ⟨bd,hbd⟩ : ∃ bd,bd = lastBad x0 y0 x1 y1 x2 y2 := ⟨_,rfl⟩
 rw [← hbd]
 have HB := Lib.hid hbd
 obtain ⟨X,hX⟩ : ∃ X,X = lastX x0 y0 x1 y1 x2 y2 a b := ⟨_,rfl⟩
 obtain ⟨Y,hY⟩ : ∃ Y,Y = lastY x0 y0 x1 y1 x2 y2 a b := ⟨_,rfl⟩
 rw [← hX,← hY]
 have HXY := Lib.hid (And.intro hX hY)
 clear hm hp hq hs ha hb hx0 hy0 hx1 hy1 hx2 hy2 hza hzb hW hbW hgW hsW hkc hbd hX hY
 go_enter Tryz.func42,Tryz.ntmps42
 go_wp2_with fail
 rw [← HW.out.1]
 refine wp_region_swap 23 24 _ (by simp only [withEdge,edged]; rfl) [(.lit,[]),(.lit,[]),(.lit,[]),(.lit,[]),(.lit,[]),(.lit,[]),(.lit,[]),(.lit,[]),(.lit,[]),(.lit,[]),(.lit,[]),(.lit,[]),(.lit,[]),(.lit,[]),(.lit,[]),(.lit,[]),(.lit,[]),(.lit,[]),(.lit,[]),(.lit,[]),(.lit,[]),(.val,[]),(.val,[21]),(.val,[21])]
  (pickF [(21,FactU (Mo NoA w.heap.size) (Tup (PZ bd X Y) kc)),(22,FactU (Mo NoA w.heap.size) (PZ bd X Y)),(23,fun v _ _ => v = .int .i64 kc)]) (by kernel_rfl) (by kernel_rfl) ?_ ?_ (by simp) (by simp) (by kernel_rfl)
 ·exact keeps_pick (by
   simp only [List.mem_cons,List.not_mem_nil,or_false]
   rintro p (rfl | rfl | rfl)
   ·exact FactU.keeps (Tup.keeps (PZ.keeps _ _ _) _)
   ·exact FactU.keeps (PZ.keeps _ _ _)
   ·exact keeps_pure _)
 ·refine ⟨_,fun f w1 h1 => by (go_simp; rfl),?_⟩
  refine ⟨_,fun f w1 h1 => by (go_simp; rfl),?_⟩
  refine ⟨_,fun f w1 h1 => by (go_simp; rfl),?_⟩
  refine ⟨_,fun f w1 h1 => by (go_simp; rfl),?_⟩
  simp only [Act.put,nrA,nrB,nrC,Nat.reduceAdd]
  refine ⟨_,fun f w1 h1 => exec_load_part 86 _ rfl m 8 rfl 89 _ #[.pointer c8,.pointer c9,.pointer c10,.pointer c11] (0,0) _ ((h1.block m hm1).trans hg) Tryz.underlying86 rfl (by kernel_rfl) (by kernel_rfl),?_⟩
  simp only [Act.put,nrA,nrB,nrC,Nat.reduceAdd]
  refine ⟨_,fun f w1 h1 => by (go_simp; rfl),?_⟩
  refine ⟨_,fun f w1 h1 => by (go_simp; rfl),?_⟩
  refine ⟨_,fun f w1 h1 => by (go_simp; rfl),?_⟩
  simp only [Act.put,nrA,nrB,nrC,Nat.reduceAdd]
  refine ⟨_,fun f w1 h1 => exec_load_part 86 _ rfl m 22 rfl 89 _ #[.pointer c22,.pointer c23,.pointer c24,.pointer c25] (0,0) _ ((h1.block m hm1).trans hg) Tryz.underlying86 rfl (by kernel_rfl) (by kernel_rfl),?_⟩
  simp only [Act.put,nrA,nrB,nrC,Nat.reduceAdd]
  refine ⟨_,fun f w1 h1 => by (go_simp; rfl),?_⟩
  refine ⟨_,fun f w1 h1 => by (go_simp; rfl),?_⟩
  refine ⟨_,fun f w1 h1 => by (go_simp; rfl),?_⟩
  simp only [Act.put,nrA,nrB,nrC,Nat.reduceAdd]
  refine ⟨_,fun f w1 h1 => exec_load_part 86 _ rfl m 30 rfl 89 _ #[.pointer c30,.pointer c31,.pointer c32,.pointer c33] (0,0) _ ((h1.block m hm1).trans hg) Tryz.underlying86 rfl (by kernel_rfl) (by kernel_rfl),?_⟩
  simp only [Act.put,nrA,nrB,nrC,Nat.reduceAdd]
  refine ⟨_,fun f w1 h1 => by (go_simp; rfl),?_⟩
  refine ⟨_,fun f w1 h1 => by (go_simp; rfl),?_⟩
  refine ⟨_,fun f w1 h1 => by (go_simp; rfl),?_⟩
  simp only [Act.put,nrA,nrB,nrC,Nat.reduceAdd]
  refine ⟨_,fun f w1 h1 => exec_load_part 83 _ rfl m 16 rfl 89 _ #[.pointer c16,.pointer c17] (0,0) _ ((h1.block m hm1).trans hg) Tryz.underlying83 rfl (by kernel_rfl) (by kernel_rfl),?_⟩
  simp only [Act.put,nrA,nrB,nrC,Nat.reduceAdd]
  refine ⟨_,fun f w1 h1 => by (go_simp; rfl),?_⟩
  refine ⟨_,fun f w1 h1 => by (go_simp; rfl),?_⟩
  refine ⟨_,fun f w1 h1 => by (go_simp; rfl),?_⟩
  simp only [Act.put,nrA,nrB,nrC,Nat.reduceAdd]
  refine ⟨_,fun f w1 h1 => exec_load_part 83 _ rfl m 20 rfl 89 _ #[.pointer c20,.pointer c21] (0,0) _ ((h1.block m hm1).trans hg) Tryz.underlying83 rfl (by kernel_rfl) (by kernel_rfl),?_⟩
  simp only [Act.put,nrA,nrB,nrC,Nat.reduceAdd]
  refine ⟨fun f w1 A1 k1 hA hN hd K hK => by
   go_simp
   refine (last_any x0 y0 x1 y1 x2 y2 a b _ _ _ _ _ (Un (Mo NoA w.heap.size) A1) w1 (rcv_un (HR.below (br.drew.trans k1)) hA) (later (FactU.keeps (PQ.keeps _ _)) HP.out.1 k1 hN) (later (FactU.keeps (PQ.keeps _ _)) HP.out.2.1 k1 hN) (later (FactU.keeps (PQ.keeps _ _)) HP.out.2.2.1 k1 hN) (later (FactU.keeps (CQ.keeps _)) HP.out.2.2.2.1 k1 hN) (later (FactU.keeps (CQ.keeps _)) HP.out.2.2.2.2 k1 hN) 1000000 (by decide) HL.out.1 HL.out.2.1 HL.out.2.2.1 HL.out.2.2.2.1 HL.out.2.2.2.2.1 HL.out.2.2.2.2.2.1 HL.out.2.2.2.2.2.2.1 HL.out.2.2.2.2.2.2.2).mono ?_
   rintro e w' ⟨v,rfl,hb,hr⟩
   exact hK _ _ hb (by rw [HB.out,HXY.out.1,HXY.out.2,HK.out]; exact hr),?_⟩
  simp only [Act.put,nrA,nrB,nrC,Nat.reduceAdd]
  refine ⟨fun f w1 A1 k1 hA hN hd K hK => by
   obtain ⟨u,e,hu⟩ : Tup (PZ bd X Y) kc (f 21) w1 (Un (Mo NoA w.heap.size) A1) := hd 21 (by simp)
   simp only [e] at hK ⊢
   go_simp
   exact hK _ _ br hu,?_⟩
  simp only [Act.put,nrA,nrB,nrC,Nat.reduceAdd]
  refine ⟨fun f w1 A1 k1 hA hN hd K hK => by
   obtain ⟨u,e,hu⟩ : Tup (PZ bd X Y) kc (f 21) w1 (Un (Mo NoA w.heap.size) A1) := hd 21 (by simp)
   simp only [e] at hK ⊢
   go_simp
   exact hK _ _ br rfl,?_⟩
  intro f w1 A1 k1 hA1 hfr hap hF
  have iC : f 23 = .int .i64 kc := hF.2
  have iP : FactU (Mo NoA w.heap.size) (PZ bd X Y) (f 22) w1 A1 := hF.1.2
  obtain ⟨v1,v2,v3,v4,e22⟩ := pz_agg iP
  rw [e22] at iP
  clear hF hap
  simp only [Act.put]
  rw [iC,e22]
  generalize f 21 = z21
  have iP := FactU.done (PZ.keeps _ _ _) (Fact.Keeps.noA (FactU.keeps (PZ.keeps _ _ _)) iP)
  have hb1 : Below W.heap.size W w1 := br.drew.trans k1
  have hz : w1.heap[w.heap.size]? = some (.cells #[.pointer none,.pointer none,.pointer none,.pointer none] 86 (0,0)) := (hb1.block _ HW.out.2.2.2).trans HW.out.2.2.1
  obtain ⟨k0,k1',k2,k3,f0,f1',f2,f3⟩ := cell_four hz
  have HZ := Lib.hid (set4_block (x0 := .pointer v1) (x1 := .pointer v2) (x2 := .pointer v3) (x3 := .pointer v4) hz)
  have HB1 := Lib.hid (HW.out.2.1.trans (hb1.mono HW.out.2.1.size))
  have HE := Lib.hid iP
  clear iC iP e22 hb1 hz k1 hA1 hfr hg hm1 HR
  go_wp2_with fail
  refine onlyN_normal ?_
  go_wp2_with fail
  have r0 := HZ.out
  refine bodyPost_ret (v := .tuple #[.agg #[.pointer v1,.pointer v2,.pointer v3,.pointer v4],.int .i64 kc]) (by simp [results,Tryz.results42,go_sem,World.cell?,r0]) rfl ⟨_,rfl,?_,_,rfl,?_⟩
  ·exact (((HB1.out.setCell (p := ⟨w.heap.size,0,none⟩) (Nat.le_refl _) _).setCell (p := ⟨w.heap.size,1,none⟩) (Nat.le_refl _) _).setCell (p := ⟨w.heap.size,2,none⟩) (Nat.le_refl _) _).setCell (p := ⟨w.heap.size,3,none⟩) (Nat.le_refl _) _
  ·exact less_of (PZ.keeps _ _ _) (keep_at (PZ.keeps _ _ _) (.inr rfl) (keep_at (PZ.keeps _ _ _) (.inr rfl) (keep_at (PZ.keeps _ _ _) (.inr rfl) (keep_at (PZ.keeps _ _ _) (.inr rfl) HE.out)))) (fun b h => h.elim)
set_option maxRecDepth 100000 in
set_option maxHeartbeats 6400000 in
theorem third_any (m : Nat) (c0 c1 c2 c3 c4 c5 c6 c7 c8 c9 c10 c11 c12 c13 c14 c15 c16 c17 c18 c19 c20 c21 c22 c23 c24 c25 c26 c27 c28 c29 c30 c31 c32 c33 : Option Addr) (w : World) (hm : w.heap[m]? = some (.cells #[.pointer c0,.pointer c1,.pointer c2,.pointer c3,.pointer c4,.pointer c5,.pointer c6,.pointer c7,.pointer c8,.pointer c9,.pointer c10,.pointer c11,.pointer c12,.pointer c13,.pointer c14,.pointer c15,.pointer c16,.pointer c17,.pointer c18,.pointer c19,.pointer c20,.pointer c21,.pointer c22,.pointer c23,.pointer c24,.pointer c25,.pointer c26,.pointer c27,.pointer c28,.pointer c29,.pointer c30,.pointer c31,.pointer c32,.pointer c33] 89 (0,0))) (x0 y0 x1 y1 x2 y2 a b : QC)
  (hp : PQ x0 y0 (.agg #[.pointer c12,.pointer c13,.pointer c14,.pointer c15]) w NoA) (hq : PQ x1 y1 (.agg #[.pointer c26,.pointer c27,.pointer c28,.pointer c29]) w NoA) (hs : PQ x2 y2 (.agg #[.pointer c30,.pointer c31,.pointer c32,.pointer c33]) w NoA) (ha : CQ a (.agg #[.pointer c16,.pointer c17]) w NoA) (hb : CQ b (.agg #[.pointer c18,.pointer c19]) w NoA)
  (hx0 : ZL x0 1000000) (hy0 : ZL y0 1000000) (hx1 : ZL x1 1000000) (hy1 : ZL y1 1000000) (hx2 : ZL x2 1000000) (hy2 : ZL y2 1000000) (hza : ZL a 1000000) (hzb : ZL b 1000000) :
  Calls Tryz.prog 43 #[.pointer (some ⟨m,0,none⟩)] w fun e w' => ∃ v,e = .returned v ∧ Below w.heap.size w w' ∧ Tup (PZ (lastBad x0 y0 x1 y1 x2 y2) (lastX x0 y0 x1 y1 x2 y2 a b) (lastY x0 y0 x1 y1 x2 y2 a b)) (lastC x0 y0 x1 y1 x2 y2) v w' NoA := by
 have hlt : m < w.heap.size := (Array.getElem?_eq_some_iff.1 hm).1
 obtain ⟨W,hW⟩ : ∃ W,W = w.alloc (.cells #[.pointer none,.pointer none,.pointer none,.pointer none] 86) := ⟨_,rfl⟩
 have hbW : Below w.heap.size w W := by rw [hW]; exact br.alloc (Nat.le_refl _) _
 have hgW : W.heap[w.heap.size]? = some (.cells #[.pointer none,.pointer none,.pointer none,.pointer none] 86 (0,0)) := by rw [hW]; exact heap_alloc_new w _
 have hsW : w.heap.size < W.heap.size := by rw [hW]; simp
 have hg : W.drew.heap[m]? = some (.cells #[.pointer c0,.pointer c1,.pointer c2,.pointer c3,.pointer c4,.pointer c5,.pointer c6,.pointer c7,.pointer c8,.pointer c9,.pointer c10,.pointer c11,.pointer c12,.pointer c13,.pointer c14,.pointer c15,.pointer c16,.pointer c17,.pointer c18,.pointer c19,.pointer c20,.pointer c21,.pointer c22,.pointer c23,.pointer c24,.pointer c25,.pointer c26,.pointer c27,.pointer c28,.pointer c29,.pointer c30,.pointer c31,.pointer c32,.pointer c33] 89 (0,0)) := (hbW.block m hlt).trans hm
 have hm1 : m < W.drew.heap.size := Nat.lt_of_lt_of_le hlt hbW.size
 have HR : Rcv (Mo NoA w.heap.size) W := rcv_more (rcv_noA w) hbW hgW (noW_p _)
 have HP := Lib.hid (And.intro (new_more (PQ.keeps _ _) (n := w.heap.size) hbW (Nat.le_refl _) hp) (And.intro (new_more (PQ.keeps _ _) (n := w.heap.size) hbW (Nat.le_refl _) hq) (And.intro (new_more (PQ.keeps _ _) (n := w.heap.size) hbW (Nat.le_refl _) hs) (And.intro (new_more (CQ.keeps _) (n := w.heap.size) hbW (Nat.le_refl _) ha) (new_more (CQ.keeps _) (n := w.heap.size) hbW (Nat.le_refl _) hb)))))
 have HL := Lib.hid (And.intro hx0 (And.intro hy0 (And.intro hx1 (And.intro hy1 (And.intro hx2 (And.intro hy2 (And.intro hza hzb)))))))
 have HW := Lib.hid (And.intro hW (And.intro hbW (And.intro hgW hsW)))
 obtain ⟨kc,hkc⟩ : ∃ kc,kc = lastC x0 y0 x1 y1 x2 y2 := ⟨_,rfl⟩
 rw [← hkc]
 have HK := Lib.hid hkc
 obtain ⟨bd,hbd⟩ : ∃ bd,bd = lastBad x0 y0 x1 y1 x2 y2 := ⟨_,rfl⟩
 rw [← hbd]
 have HB := Lib.hid hbd
 obtain ⟨X,hX⟩ : ∃ X,X = lastX x0 y0 x1 y1 x2 y2 a b := ⟨_,rfl⟩
 obtain ⟨Y,hY⟩ : ∃ Y,Y = lastY x0 y0 x1 y1 x2 y2 a b := ⟨_,rfl⟩
 rw [← hX,← hY]
 have HXY := Lib.hid (And.intro hX hY)
 clear hm hp hq hs ha hb hx0 hy0 hx1 hy1 hx2 hy2 hza hzb hW hbW hgW hsW hkc hbd hX hY
 go_enter Tryz.func43,Tryz.ntmps43
 go_wp2_with fail
 rw [← HW.out.1]
 refine wp_region_swap 23 24 _ (by simp only [withEdge,edged]; rfl) [(.lit,[]),(.lit,[]),(.lit,[]),(.lit,[]),(.lit,[]),(.lit,[]),(.lit,[]),(.lit,[]),(.lit,[]),(.lit,[]),(.lit,[]),(.lit,[]),(.lit,[]),(.lit,[]),(.lit,[]),(.lit,[]),(.lit,[]),(.lit,[]),(.lit,[]),(.lit,[]),(.lit,[]),(.val,[]),(.val,[21]),(.val,[21])]
  (pickF [(21,FactU (Mo NoA w.heap.size) (Tup (PZ bd X Y) kc)),(22,FactU (Mo NoA w.heap.size) (PZ bd X Y)),(23,fun v _ _ => v = .int .i64 kc)]) (by kernel_rfl) (by kernel_rfl) ?_ ?_ (by simp) (by simp) (by kernel_rfl)
 ·exact keeps_pick (by
   simp only [List.mem_cons,List.not_mem_nil,or_false]
   rintro p (rfl | rfl | rfl)
   ·exact FactU.keeps (Tup.keeps (PZ.keeps _ _ _) _)
   ·exact FactU.keeps (PZ.keeps _ _ _)
   ·exact keeps_pure _)
 ·refine ⟨_,fun f w1 h1 => by (go_simp; rfl),?_⟩
  refine ⟨_,fun f w1 h1 => by (go_simp; rfl),?_⟩
  refine ⟨_,fun f w1 h1 => by (go_simp; rfl),?_⟩
  refine ⟨_,fun f w1 h1 => by (go_simp; rfl),?_⟩
  simp only [Act.put,nrA,nrB,nrC,Nat.reduceAdd]
  refine ⟨_,fun f w1 h1 => exec_load_part 86 _ rfl m 12 rfl 89 _ #[.pointer c12,.pointer c13,.pointer c14,.pointer c15] (0,0) _ ((h1.block m hm1).trans hg) Tryz.underlying86 rfl (by kernel_rfl) (by kernel_rfl),?_⟩
  simp only [Act.put,nrA,nrB,nrC,Nat.reduceAdd]
  refine ⟨_,fun f w1 h1 => by (go_simp; rfl),?_⟩
  refine ⟨_,fun f w1 h1 => by (go_simp; rfl),?_⟩
  refine ⟨_,fun f w1 h1 => by (go_simp; rfl),?_⟩
  simp only [Act.put,nrA,nrB,nrC,Nat.reduceAdd]
  refine ⟨_,fun f w1 h1 => exec_load_part 86 _ rfl m 26 rfl 89 _ #[.pointer c26,.pointer c27,.pointer c28,.pointer c29] (0,0) _ ((h1.block m hm1).trans hg) Tryz.underlying86 rfl (by kernel_rfl) (by kernel_rfl),?_⟩
  simp only [Act.put,nrA,nrB,nrC,Nat.reduceAdd]
  refine ⟨_,fun f w1 h1 => by (go_simp; rfl),?_⟩
  refine ⟨_,fun f w1 h1 => by (go_simp; rfl),?_⟩
  refine ⟨_,fun f w1 h1 => by (go_simp; rfl),?_⟩
  simp only [Act.put,nrA,nrB,nrC,Nat.reduceAdd]
  refine ⟨_,fun f w1 h1 => exec_load_part 86 _ rfl m 30 rfl 89 _ #[.pointer c30,.pointer c31,.pointer c32,.pointer c33] (0,0) _ ((h1.block m hm1).trans hg) Tryz.underlying86 rfl (by kernel_rfl) (by kernel_rfl),?_⟩
  simp only [Act.put,nrA,nrB,nrC,Nat.reduceAdd]
  refine ⟨_,fun f w1 h1 => by (go_simp; rfl),?_⟩
  refine ⟨_,fun f w1 h1 => by (go_simp; rfl),?_⟩
  refine ⟨_,fun f w1 h1 => by (go_simp; rfl),?_⟩
  simp only [Act.put,nrA,nrB,nrC,Nat.reduceAdd]
  refine ⟨_,fun f w1 h1 => exec_load_part 83 _ rfl m 16 rfl 89 _ #[.pointer c16,.pointer c17] (0,0) _ ((h1.block m hm1).trans hg) Tryz.underlying83 rfl (by kernel_rfl) (by kernel_rfl),?_⟩
  simp only [Act.put,nrA,nrB,nrC,Nat.reduceAdd]
  refine ⟨_,fun f w1 h1 => by (go_simp; rfl),?_⟩
  refine ⟨_,fun f w1 h1 => by (go_simp; rfl),?_⟩
  refine ⟨_,fun f w1 h1 => by (go_simp; rfl),?_⟩
  simp only [Act.put,nrA,nrB,nrC,Nat.reduceAdd]
  refine ⟨_,fun f w1 h1 => exec_load_part 83 _ rfl m 18 rfl 89 _ #[.pointer c18,.pointer c19] (0,0) _ ((h1.block m hm1).trans hg) Tryz.underlying83 rfl (by kernel_rfl) (by kernel_rfl),?_⟩
  simp only [Act.put,nrA,nrB,nrC,Nat.reduceAdd]
  refine ⟨fun f w1 A1 k1 hA hN hd K hK => by
   go_simp
   refine (last_any x0 y0 x1 y1 x2 y2 a b _ _ _ _ _ (Un (Mo NoA w.heap.size) A1) w1 (rcv_un (HR.below (br.drew.trans k1)) hA) (later (FactU.keeps (PQ.keeps _ _)) HP.out.1 k1 hN) (later (FactU.keeps (PQ.keeps _ _)) HP.out.2.1 k1 hN) (later (FactU.keeps (PQ.keeps _ _)) HP.out.2.2.1 k1 hN) (later (FactU.keeps (CQ.keeps _)) HP.out.2.2.2.1 k1 hN) (later (FactU.keeps (CQ.keeps _)) HP.out.2.2.2.2 k1 hN) 1000000 (by decide) HL.out.1 HL.out.2.1 HL.out.2.2.1 HL.out.2.2.2.1 HL.out.2.2.2.2.1 HL.out.2.2.2.2.2.1 HL.out.2.2.2.2.2.2.1 HL.out.2.2.2.2.2.2.2).mono ?_
   rintro e w' ⟨v,rfl,hb,hr⟩
   exact hK _ _ hb (by rw [HB.out,HXY.out.1,HXY.out.2,HK.out]; exact hr),?_⟩
  simp only [Act.put,nrA,nrB,nrC,Nat.reduceAdd]
  refine ⟨fun f w1 A1 k1 hA hN hd K hK => by
   obtain ⟨u,e,hu⟩ : Tup (PZ bd X Y) kc (f 21) w1 (Un (Mo NoA w.heap.size) A1) := hd 21 (by simp)
   simp only [e] at hK ⊢
   go_simp
   exact hK _ _ br hu,?_⟩
  simp only [Act.put,nrA,nrB,nrC,Nat.reduceAdd]
  refine ⟨fun f w1 A1 k1 hA hN hd K hK => by
   obtain ⟨u,e,hu⟩ : Tup (PZ bd X Y) kc (f 21) w1 (Un (Mo NoA w.heap.size) A1) := hd 21 (by simp)
   simp only [e] at hK ⊢
   go_simp
   exact hK _ _ br rfl,?_⟩
  intro f w1 A1 k1 hA1 hfr hap hF
  have iC : f 23 = .int .i64 kc := hF.2
  have iP : FactU (Mo NoA w.heap.size) (PZ bd X Y) (f 22) w1 A1 := hF.1.2
  obtain ⟨v1,v2,v3,v4,e22⟩ := pz_agg iP
  rw [e22] at iP
  clear hF hap
  simp only [Act.put]
  rw [iC,e22]
  generalize f 21 = z21
  have iP := FactU.done (PZ.keeps _ _ _) (Fact.Keeps.noA (FactU.keeps (PZ.keeps _ _ _)) iP)
  have hb1 : Below W.heap.size W w1 := br.drew.trans k1
  have hz : w1.heap[w.heap.size]? = some (.cells #[.pointer none,.pointer none,.pointer none,.pointer none] 86 (0,0)) := (hb1.block _ HW.out.2.2.2).trans HW.out.2.2.1
  obtain ⟨k0,k1',k2,k3,f0,f1',f2,f3⟩ := cell_four hz
  have HZ := Lib.hid (set4_block (x0 := .pointer v1) (x1 := .pointer v2) (x2 := .pointer v3) (x3 := .pointer v4) hz)
  have HB1 := Lib.hid (HW.out.2.1.trans (hb1.mono HW.out.2.1.size))
  have HE := Lib.hid iP
  clear iC iP e22 hb1 hz k1 hA1 hfr hg hm1 HR
  go_wp2_with fail
  refine onlyN_normal ?_
  go_wp2_with fail
  have r0 := HZ.out
  refine bodyPost_ret (v := .tuple #[.agg #[.pointer v1,.pointer v2,.pointer v3,.pointer v4],.int .i64 kc]) (by simp [results,Tryz.results43,go_sem,World.cell?,r0]) rfl ⟨_,rfl,?_,_,rfl,?_⟩
  ·exact (((HB1.out.setCell (p := ⟨w.heap.size,0,none⟩) (Nat.le_refl _) _).setCell (p := ⟨w.heap.size,1,none⟩) (Nat.le_refl _) _).setCell (p := ⟨w.heap.size,2,none⟩) (Nat.le_refl _) _).setCell (p := ⟨w.heap.size,3,none⟩) (Nat.le_refl _) _
  ·exact less_of (PZ.keeps _ _ _) (keep_at (PZ.keeps _ _ _) (.inr rfl) (keep_at (PZ.keeps _ _ _) (.inr rfl) (keep_at (PZ.keeps _ _ _) (.inr rfl) (keep_at (PZ.keeps _ _ _) (.inr rfl) HE.out)))) (fun b h => h.elim)
end Go.Proofs.YtepefgkihnjjaaaGreat
namespace Go.Proofs.YtepefgkihnjjaaaGreat
open Go.RowKit Tr
theorem noW_ptrs (l : List (Option Addr)) (T : TypeId) : NoW (.cells (l.map Value.pointer).toArray T (0,0)) := by
 intro cs T' fr e i k x h
 cases e
 simp only [List.getElem?_toArray,List.getElem?_map,Option.map_eq_some_iff] at h
 obtain ⟨_,_,h⟩ := h
 cases h
def plainV (v : Value) : Bool := match v with | .bool _ => true | .string _ => true | _ => false
theorem noW_plain {l : List Value} (T : TypeId) (h : l.all plainV = true) : NoW (.cells l.toArray T (0,0)) := by
 intro cs T' fr e i k x hx
 cases e
 simp only [List.getElem?_toArray] at hx
 have := List.all_eq_true.1 h _ (List.mem_of_getElem? hx)
 simp [plainV] at this
theorem cell_at {w : World} {m o : Nat} {cs : Array Value} {T : TypeId} {v : Value} (h : w.heap[m]? = some (.cells cs T (0,0))) (hv : cs[o]? = some v) : w.cell? ⟨m,o,none⟩ = some v ∧ w.frozen? ⟨m,o,none⟩ = false := by
 have ho : o < cs.size := (Array.getElem?_eq_some_iff.1 hv).1
 simp [World.cell?,World.frozen?,h,hv]
theorem set4_part {w : World} {m o : Nat} {cs cs' : Array Value} {T : TypeId} {x0 x1 x2 x3 : Value} (h : w.heap[m]? = some (.cells cs T (0,0))) (hc : (((cs.setIfInBounds o x0).setIfInBounds (o + 1) x1).setIfInBounds (o + 2) x2).setIfInBounds (o + 3) x3 = cs') :
  ((((w.setCell ⟨m,o,none⟩ x0).setCell ⟨m,o + 1,none⟩ x1).setCell ⟨m,o + 2,none⟩ x2).setCell ⟨m,o + 3,none⟩ x3).heap[m]? = some (.cells cs' T (0,0)) := by
 rw [← hc]
 exact heap_setCell_same _ _ _ _ _ _ (heap_setCell_same _ _ _ _ _ _ (heap_setCell_same _ _ _ _ _ _ (heap_setCell_same _ _ _ _ _ _ h)))
theorem set9_part {w : World} {m o : Nat} {cs cs' : Array Value} {T : TypeId} {x0 x1 x2 x3 x4 x5 x6 x7 x8 : Value} (h : w.heap[m]? = some (.cells cs T (0,0))) (hc : ((((((((cs.setIfInBounds o x0).setIfInBounds (o + 1) x1).setIfInBounds (o + 2) x2).setIfInBounds (o + 3) x3).setIfInBounds (o + 4) x4).setIfInBounds (o + 5) x5).setIfInBounds (o + 6) x6).setIfInBounds (o + 7) x7).setIfInBounds (o + 8) x8 = cs') :
  (((((((((w.setCell ⟨m,o,none⟩ x0).setCell ⟨m,o + 1,none⟩ x1).setCell ⟨m,o + 2,none⟩ x2).setCell ⟨m,o + 3,none⟩ x3).setCell ⟨m,o + 4,none⟩ x4).setCell ⟨m,o + 5,none⟩ x5).setCell ⟨m,o + 6,none⟩ x6).setCell ⟨m,o + 7,none⟩ x7).setCell ⟨m,o + 8,none⟩ x8).heap[m]? = some (.cells cs' T (0,0)) := by
 rw [← hc]
 exact heap_setCell_same _ _ _ _ _ _ (heap_setCell_same _ _ _ _ _ _ (heap_setCell_same _ _ _ _ _ _ (heap_setCell_same _ _ _ _ _ _ (heap_setCell_same _ _ _ _ _ _ (heap_setCell_same _ _ _ _ _ _ (heap_setCell_same _ _ _ _ _ _ (heap_setCell_same _ _ _ _ _ _ (heap_setCell_same _ _ _ _ _ _ h))))))))
theorem keep4 {R : Fact} (hR : R.Keeps) {n o0 o1 o2 o3 : Nat} {A : Nat → Prop} {v x0 x1 x2 x3 : Value} {w : World} (hn : A n) (h : R v w A) : R v ((((w.setCell ⟨n,o0,none⟩ x0).setCell ⟨n,o1,none⟩ x1).setCell ⟨n,o2,none⟩ x2).setCell ⟨n,o3,none⟩ x3) A :=
 keep_at hR hn (keep_at hR hn (keep_at hR hn (keep_at hR hn h)))
theorem keep9 {R : Fact} (hR : R.Keeps) {n o0 o1 o2 o3 o4 o5 o6 o7 o8 : Nat} {A : Nat → Prop} {v x0 x1 x2 x3 x4 x5 x6 x7 x8 : Value} {w : World} (hn : A n) (h : R v w A) : R v (((((((((w.setCell ⟨n,o0,none⟩ x0).setCell ⟨n,o1,none⟩ x1).setCell ⟨n,o2,none⟩ x2).setCell ⟨n,o3,none⟩ x3).setCell ⟨n,o4,none⟩ x4).setCell ⟨n,o5,none⟩ x5).setCell ⟨n,o6,none⟩ x6).setCell ⟨n,o7,none⟩ x7).setCell ⟨n,o8,none⟩ x8) A :=
 keep_at hR hn (keep_at hR hn (keep_at hR hn (keep_at hR hn (keep_at hR hn (keep_at hR hn (keep_at hR hn (keep_at hR hn (keep_at hR hn h))))))))
theorem other4 {n o0 o1 o2 o3 b : Nat} {x0 x1 x2 x3 : Value} {w : World} (h : b ≠ n) : ((((w.setCell ⟨n,o0,none⟩ x0).setCell ⟨n,o1,none⟩ x1).setCell ⟨n,o2,none⟩ x2).setCell ⟨n,o3,none⟩ x3).heap[b]? = w.heap[b]? := by
 rw [heap_setCell_other _ _ _ _ h,heap_setCell_other _ _ _ _ h,heap_setCell_other _ _ _ _ h,heap_setCell_other _ _ _ _ h]
theorem other9 {n o0 o1 o2 o3 o4 o5 o6 o7 o8 b : Nat} {x0 x1 x2 x3 x4 x5 x6 x7 x8 : Value} {w : World} (h : b ≠ n) : (((((((((w.setCell ⟨n,o0,none⟩ x0).setCell ⟨n,o1,none⟩ x1).setCell ⟨n,o2,none⟩ x2).setCell ⟨n,o3,none⟩ x3).setCell ⟨n,o4,none⟩ x4).setCell ⟨n,o5,none⟩ x5).setCell ⟨n,o6,none⟩ x6).setCell ⟨n,o7,none⟩ x7).setCell ⟨n,o8,none⟩ x8).heap[b]? = w.heap[b]? := by
 rw [heap_setCell_other _ _ _ _ h,heap_setCell_other _ _ _ _ h,heap_setCell_other _ _ _ _ h,heap_setCell_other _ _ _ _ h,heap_setCell_other _ _ _ _ h,heap_setCell_other _ _ _ _ h,heap_setCell_other _ _ _ _ h,heap_setCell_other _ _ _ _ h,heap_setCell_other _ _ _ _ h]
theorem below4 {B n o0 o1 o2 o3 : Nat} {x0 x1 x2 x3 : Value} {a w : World} (h : Below B a w) (hn : B ≤ n) : Below B a ((((w.setCell ⟨n,o0,none⟩ x0).setCell ⟨n,o1,none⟩ x1).setCell ⟨n,o2,none⟩ x2).setCell ⟨n,o3,none⟩ x3) :=
 (((h.setCell (p := ⟨n,o0,none⟩) hn _).setCell (p := ⟨n,o1,none⟩) hn _).setCell (p := ⟨n,o2,none⟩) hn _).setCell (p := ⟨n,o3,none⟩) hn _
theorem below9 {B n o0 o1 o2 o3 o4 o5 o6 o7 o8 : Nat} {x0 x1 x2 x3 x4 x5 x6 x7 x8 : Value} {a w : World} (h : Below B a w) (hn : B ≤ n) : Below B a (((((((((w.setCell ⟨n,o0,none⟩ x0).setCell ⟨n,o1,none⟩ x1).setCell ⟨n,o2,none⟩ x2).setCell ⟨n,o3,none⟩ x3).setCell ⟨n,o4,none⟩ x4).setCell ⟨n,o5,none⟩ x5).setCell ⟨n,o6,none⟩ x6).setCell ⟨n,o7,none⟩ x7).setCell ⟨n,o8,none⟩ x8) :=
 below4 ((below4 h hn).setCell (p := ⟨n,o4,none⟩) hn _) hn
theorem results_cell_tmp {P : Program} {fn : Func} {p q : Tmp} {ty : TypeId} (h : fn.results = #[.cell p ty,.tmp q]) (tmps : Array Value) (w : World) (g : Nat) (t : TypeId) (cs : Array Value) (fr : Nat × Nat) (d : TypeDesc) (v : Value)
  (hp : tmps[p]? = some (.pointer (some ⟨g,0,none⟩))) (hq : tmps[q]? = some v) (hg : w.heap[g]? = some (.cells cs t fr))
  (hu : P.underlying ty = some d) (hd : (match d with | .struct _ | .array _ _ => true | _ => false) = true) (hi : (P.info? ty).map (·.size) = some cs.size) :
  (results fn tmps).run P w = .ok (.tuple #[.agg cs,v]) w := by
 simp [results,h,hp,hq,asAddr,run_loadVar_row w g t ty cs fr d hg hu hd hi]
theorem point_of (p : Pt) (h : ShortP p) (v : Value) (hv : encP p = v) (A : Nat → Prop) (w : World) (hA : Rcv A w) : Calls Tryz.prog 39 #[v] w fun e w' => ∃ u,e = .returned u ∧ Below w.heap.size w w' ∧ PQ (ptX p) (ptY p) u w' A := by
 subst hv
 obtain ⟨_,_,_,_,_,_,_,_,_,e,C⟩ := encP_parts p h
 rw [e]; exact C A w hA
theorem of_of (z : QC) (h : ShortZ z) (v : Value) (hv : encQ z = v) (A : Nat → Prop) (w : World) (hA : Rcv A w) : Calls Tryz.prog 38 #[v] w fun e w' => ∃ u,e = .returned u ∧ Below w.heap.size w w' ∧ CQ z u w' A := by
 subst hv
 obtain ⟨_,_,_,_,_,_,_,_,e,C⟩ := encQ_parts z h
 rw [e]; exact C A w hA
theorem cq_ptr {z : QC} {v : Value} {w : World} {A : Nat → Prop} (h : CQ z v w A) : ∃ a b : Option Addr,v = .agg #[.pointer a,.pointer b] := by
 obtain ⟨_,_,e⟩ := cq_agg h; exact ⟨_,_,e⟩
theorem pq_ptr {x y : QC} {v : Value} {w : World} {A : Nat → Prop} (h : PQ x y v w A) : ∃ a b c d : Option Addr,v = .agg #[.pointer a,.pointer b,.pointer c,.pointer d] := by
 obtain ⟨_,_,_,_,e⟩ := pq_agg h; exact ⟨_,_,_,_,e⟩
theorem ZL_last {x0 y0 x1 y1 x2 y2 a b : QC} {k : Nat} (h0 : ZL x0 k) (h1 : ZL y0 k) (h2 : ZL x1 k) (h3 : ZL y1 k) (h4 : ZL x2 k) (h5 : ZL y2 k) (ha : ZL a k) (hb : ZL b k) : ZL (lastX x0 y0 x1 y1 x2 y2 a b) (200 * k + 200) ∧ ZL (lastY x0 y0 x1 y1 x2 y2 a b) (200 * k + 200) :=
  ⟨(ZL_add (ZL_mul (ZL_mul (ZL_sub (ZL_mul h0 h3) (ZL_mul h1 h2)) hb) h4) (ZL_mul (ZL_mul (ZL_sub (ZL_mul h4 h1) (ZL_mul h5 h0)) ha) h2)).mono (by omega),
   (ZL_add (ZL_mul (ZL_mul (ZL_sub (ZL_mul h0 h3) (ZL_mul h1 h2)) hb) h5) (ZL_mul (ZL_mul (ZL_sub (ZL_mul h4 h1) (ZL_mul h5 h0)) ha) h3)).mono (by omega)⟩
end Go.Proofs.YtepefgkihnjjaaaGreat
