/- Laws for the walk. -/
import Derived.Test.YtepefgkihnjjaaaGreatZzz
import Derived.Test.YtepefgkihnjjaaaGreatZaq
set_option linter.unusedVariables false
namespace Go.Proofs.YtepefgkihnjjaaaGreat
open Go.RowKit Tr
def zPQ : Value := .agg #[.pointer none,.pointer none,.pointer none,.pointer none]
def lastBad (x0 y0 x1 y1 x2 y2 : QC) : Prop := x0 * y1 = x1 * y0 ∨ x1 * y2 = x2 * y1 ∨ x2 * y0 = x0 * y2
set_option maxRecDepth 100000 in
set_option maxHeartbeats 3200000 in
theorem last_bad (x0 y0 x1 y1 x2 y2 : QC) (vp vq vs va vb : Value) (z z2 : QC) (A : Nat → Prop) (w : World) (hp : PQ x0 y0 vp w A) (hq : PQ x1 y1 vq w A) (hs : PQ x2 y2 vs w A) (ha : CQ z va w A) (hb : CQ z2 vb w A) (k : Nat) (hk : k ≤ 1000000) (hx0 : ZL x0 k) (hy0 : ZL y0 k) (hx1 : ZL x1 k) (hy1 : ZL y1 k) (hx2 : ZL x2 k) (hy2 : ZL y2 k) (hbad : lastBad x0 y0 x1 y1 x2 y2) :
  Calls Tryz.prog 40 #[vp,vq,vs,va,vb] w fun e w' => e = .returned (.tuple #[zPQ,.int .i64 370]) ∧ Below w.heap.size w w' := by
 have hp := Fact.Keeps.noA (PQ.keeps _ _) hp
 have hq := Fact.Keeps.noA (PQ.keeps _ _) hq
 have hs := Fact.Keeps.noA (PQ.keeps _ _) hs
 obtain ⟨p1,p2,p3,p4,rfl,_⟩ := id hp
 obtain ⟨q1,q2,q3,q4,rfl,_⟩ := id hq
 obtain ⟨s1,s2,s3,s4,rfl,_⟩ := id hs
 obtain ⟨a1,a2,rfl,_⟩ := ha
 obtain ⟨b1,b2,rfl,_⟩ := hb
 obtain ⟨W,HV⟩ := lbox w p1 p2 p3 p4 q1 q2 q3 q4 s1 s2 s3 s4 a1 a2 b1 b2 NoA (rcv_noA _)
 have hp := Fact.Keeps.below (PQ.keeps _ _) HV.out.2.1 hp
 have hq := Fact.Keeps.below (PQ.keeps _ _) HV.out.2.1 hq
 have hs := Fact.Keeps.below (PQ.keeps _ _) HV.out.2.1 hs
 obtain ⟨ra,hra⟩ : ∃ ra,ra = decide (x0 * y1 = x1 * y0) := ⟨_,rfl⟩
 obtain ⟨rb,hrb⟩ : ∃ rb,rb = decide (x1 * y2 = x2 * y1) := ⟨_,rfl⟩
 obtain ⟨rc,hrc⟩ : ∃ rc,rc = decide (x2 * y0 = x0 * y2) := ⟨_,rfl⟩
 have H1 := Lib.hid (fun w' (h : Below W.heap.size W w') => PSame_any x0 y0 x1 y1 _ _ NoA w' (Fact.Keeps.below (PQ.keeps _ _) h hp) (Fact.Keeps.below (PQ.keeps _ _) h hq) k k hx0 hy0 hx1 hy1 (by omega) ra (by rw [hra]; simp))
 have H2 := Lib.hid (fun w' (h : Below W.heap.size W w') => PSame_any x1 y1 x2 y2 _ _ NoA w' (Fact.Keeps.below (PQ.keeps _ _) h hq) (Fact.Keeps.below (PQ.keeps _ _) h hs) k k hx1 hy1 hx2 hy2 (by omega) rb (by rw [hrb]; simp))
 have H3 := Lib.hid (fun w' (h : Below W.heap.size W w') => PSame_any x2 y2 x0 y0 _ _ NoA w' (Fact.Keeps.below (PQ.keeps _ _) h hs) (Fact.Keeps.below (PQ.keeps _ _) h hp) k k hx2 hy2 hx0 hy0 (by omega) rc (by rw [hrc]; simp))
 have HB := Lib.hid (show ra = true ∨ rb = true ∨ rc = true by rw [hra,hrb,hrc]; simpa [lastBad] using hbad)
 have hc := HV.out.2.2.2.2 W br
 obtain ⟨_,⟨c0,c1,c2,c3⟩,⟨d0,d1,d2,d3⟩,_⟩ := hc
 clear hra hrb hrc hp hq hs hbad hx0 hy0 hx1 hy1 hx2 hy2
 go_enter Tryz.func40,Tryz.ntmps40
 go_wp2_with fail
 rw [← HV.out.1]
 simp only [Nat.add_assoc,Nat.reduceAdd]
 refine (H1.out W br).mono ?_
 rintro e w1 ⟨rfl,hb1⟩
 clear c0 c1 c2 c3 d0 d1 d2 d3
 cases ra
 ·obtain ⟨_,⟨c0,c1,c2,c3⟩,⟨d0,d1,d2,d3⟩,⟨e0,e1,e2,e3⟩,_⟩ := HV.out.2.2.2.2 w1 hb1
  have HB1 := Lib.hid hb1
  clear hb1
  go_wp2_with fail
  refine (H2.out w1 HB1.out).mono ?_
  rintro e w2 ⟨rfl,hb2⟩
  have hb2 := HB1.out.trans (hb2.mono HB1.out.size)
  clear c0 c1 c2 c3 d0 d1 d2 d3 e0 e1 e2 e3
  cases rb
  ·obtain ⟨_,⟨c0,c1,c2,c3⟩,⟨d0,d1,d2,d3⟩,⟨e0,e1,e2,e3⟩,_⟩ := HV.out.2.2.2.2 w2 hb2
   have HB2 := Lib.hid hb2
   clear hb2
   go_wp2_with fail
   refine (H3.out w2 HB2.out).mono ?_
   rintro e w3 ⟨rfl,hb3⟩
   have hb3 := HB2.out.trans (hb3.mono HB2.out.size)
   have hc := HB.out
   simp only [Bool.false_eq_true,false_or] at hc
   subst hc
   clear c0 c1 c2 c3 d0 d1 d2 d3 e0 e1 e2 e3
   obtain ⟨⟨c0,c1,c2,c3,f0,f1,f2,f3⟩,_⟩ := HV.out.2.2.2.2 w3 hb3
   have HF := Lib.hid (HV.out.2.1.trans (hb3.mono HV.out.2.1.size))
   clear hb3
   go_wp2_with fail
   refine bodyPost_ret (v := .tuple #[zPQ,.int .i64 370]) (by unfold zPQ; simp [results,Tryz.results40,go_sem,c0,c1,c2,c3]) rfl ⟨rfl,?_⟩
   exact (((HF.out.setCell (p := ⟨w.heap.size + 5,0,none⟩) (by show w.heap.size ≤ w.heap.size + 5; omega) _).setCell (p := ⟨w.heap.size + 5,1,none⟩) (by show w.heap.size ≤ w.heap.size + 5; omega) _).setCell (p := ⟨w.heap.size + 5,2,none⟩) (by show w.heap.size ≤ w.heap.size + 5; omega) _).setCell (p := ⟨w.heap.size + 5,3,none⟩) (by show w.heap.size ≤ w.heap.size + 5; omega) _
  ·obtain ⟨⟨c0,c1,c2,c3,f0,f1,f2,f3⟩,_⟩ := HV.out.2.2.2.2 w2 hb2
   have HF := Lib.hid (HV.out.2.1.trans (hb2.mono HV.out.2.1.size))
   clear hb2
   go_wp2_with fail
   refine bodyPost_ret (v := .tuple #[zPQ,.int .i64 370]) (by unfold zPQ; simp [results,Tryz.results40,go_sem,c0,c1,c2,c3]) rfl ⟨rfl,?_⟩
   exact (((HF.out.setCell (p := ⟨w.heap.size + 5,0,none⟩) (by show w.heap.size ≤ w.heap.size + 5; omega) _).setCell (p := ⟨w.heap.size + 5,1,none⟩) (by show w.heap.size ≤ w.heap.size + 5; omega) _).setCell (p := ⟨w.heap.size + 5,2,none⟩) (by show w.heap.size ≤ w.heap.size + 5; omega) _).setCell (p := ⟨w.heap.size + 5,3,none⟩) (by show w.heap.size ≤ w.heap.size + 5; omega) _
 ·obtain ⟨⟨c0,c1,c2,c3,f0,f1,f2,f3⟩,_⟩ := HV.out.2.2.2.2 w1 hb1
  have HF := Lib.hid (HV.out.2.1.trans (hb1.mono HV.out.2.1.size))
  clear hb1
  go_wp2_with fail
  refine bodyPost_ret (v := .tuple #[zPQ,.int .i64 370]) (by unfold zPQ; simp [results,Tryz.results40,go_sem,c0,c1,c2,c3]) rfl ⟨rfl,?_⟩
  exact (((HF.out.setCell (p := ⟨w.heap.size + 5,0,none⟩) (by show w.heap.size ≤ w.heap.size + 5; omega) _).setCell (p := ⟨w.heap.size + 5,1,none⟩) (by show w.heap.size ≤ w.heap.size + 5; omega) _).setCell (p := ⟨w.heap.size + 5,2,none⟩) (by show w.heap.size ≤ w.heap.size + 5; omega) _).setCell (p := ⟨w.heap.size + 5,3,none⟩) (by show w.heap.size ≤ w.heap.size + 5; omega) _
end Go.Proofs.YtepefgkihnjjaaaGreat
namespace Go.Proofs.YtepefgkihnjjaaaGreat
open Go.RowKit Tr
def lastX (x0 y0 x1 y1 x2 y2 a b : QC) : QC := (x0 * y1 - y0 * x1) * b * x2 + (x2 * y0 - y2 * x0) * a * x1
def lastY (x0 y0 x1 y1 x2 y2 a b : QC) : QC := (x0 * y1 - y0 * x1) * b * y2 + (x2 * y0 - y2 * x0) * a * y1
theorem cq_agg {z : QC} {v : Value} {w : World} {A : Nat → Prop} (h : CQ z v w A) : ∃ m1 m2,v = .agg #[.pointer (some ⟨m1,0,none⟩),.pointer (some ⟨m2,0,none⟩)] := by
 obtain ⟨u1,u2,rfl,h1,h2⟩ := h
 obtain ⟨m1,rfl⟩ := h1.shape
 obtain ⟨m2,rfl⟩ := h2.shape
 exact ⟨m1,m2,rfl⟩
theorem cell_two {w : World} {m : Nat} {T : TypeId} (h : w.heap[m]? = some (.cells #[.pointer none,.pointer none] T (0,0))) : w.cell? ⟨m,0,none⟩ = some (.pointer none) ∧ w.cell? ⟨m,1,none⟩ = some (.pointer none) ∧ w.frozen? ⟨m,0,none⟩ = false ∧ w.frozen? ⟨m,1,none⟩ = false := by
 simp [World.cell?,World.frozen?,h]
theorem keep_setA {R : Fact} (hR : R.Keeps) {n o : Nat} {A : Nat → Prop} {x y : Value} {w : World} (hn : A n) (h : R x w A) : R x (w.setCell ⟨n,o,none⟩ y) A :=
 hR _ _ _ _ _ (by simp [World.setCell]) (fun b _ hb => ⟨Below.heap_setCell _ _ _ _ (fun e => hb (e ▸ hn)),hb⟩) h
theorem set_four {w1 : World} {m n : Nat} {T : TypeId} (hmn : m ≠ n) (zm : w1.heap[m]? = some (.cells #[.pointer none,.pointer none] T (0,0))) (zn : w1.heap[n]? = some (.cells #[.pointer none,.pointer none] T (0,0))) (t1 t2 t3 t4 : Value) :
  let w := (((w1.setCell ⟨m,0,none⟩ t1).setCell ⟨m,1,none⟩ t2).setCell ⟨n,0,none⟩ t3).setCell ⟨n,1,none⟩ t4
  w.cell? ⟨m,0,none⟩ = some t1 ∧ w.cell? ⟨m,1,none⟩ = some t2 ∧ w.cell? ⟨n,0,none⟩ = some t3 ∧ w.cell? ⟨n,1,none⟩ = some t4 := by
 obtain ⟨k10,k11,k12,k13⟩ := cell_two zm
 obtain ⟨k20,k21,k22,k23⟩ := cell_two zn
 refine ⟨?_,?_,?_,?_⟩ <;> go_simp
set_option maxRecDepth 100000 in
set_option maxHeartbeats 6400000 in
theorem last_good (x0 y0 x1 y1 x2 y2 a b : QC) (vp vq vs va vb : Value) (A : Nat → Prop) (w : World) (hA : Rcv A w) (hp : PQ x0 y0 vp w A) (hq : PQ x1 y1 vq w A) (hs : PQ x2 y2 vs w A) (ha : CQ a va w A) (hb : CQ b vb w A) (k : Nat) (hk : k ≤ 1000000) (hx0 : ZL x0 k) (hy0 : ZL y0 k) (hx1 : ZL x1 k) (hy1 : ZL y1 k) (hx2 : ZL x2 k) (hy2 : ZL y2 k) (hza : ZL a k) (hzb : ZL b k) (hgood : ¬ lastBad x0 y0 x1 y1 x2 y2) :
  Calls Tryz.prog 40 #[vp,vq,vs,va,vb] w fun e w' => ∃ u,e = .returned (.tuple #[u,.int .i64 0]) ∧ Below w.heap.size w w' ∧ PQ (lastX x0 y0 x1 y1 x2 y2 a b) (lastY x0 y0 x1 y1 x2 y2 a b) u w' A := by
 have hp := new_more (PQ.keeps _ _) (n := w.heap.size + 5) br (by omega) hp
 have hq := new_more (PQ.keeps _ _) (n := w.heap.size + 5) br (by omega) hq
 have hs := new_more (PQ.keeps _ _) (n := w.heap.size + 5) br (by omega) hs
 have ha := new_more (CQ.keeps _) (n := w.heap.size + 5) br (by omega) ha
 have hb := new_more (CQ.keeps _) (n := w.heap.size + 5) br (by omega) hb
 obtain ⟨p1,p2,p3,p4,rfl,gp1,gp2,gp3,gp4⟩ := id hp
 obtain ⟨q1,q2,q3,q4,rfl,gq1,gq2,gq3,gq4⟩ := id hq
 obtain ⟨s1,s2,s3,s4,rfl,gs1,gs2,gs3,gs4⟩ := id hs
 obtain ⟨a1,a2,rfl,ga1,ga2⟩ := id ha
 obtain ⟨b1,b2,rfl,gb1,gb2⟩ := id hb
 obtain ⟨W,HV⟩ := lbox w p1 p2 p3 p4 q1 q2 q3 q4 s1 s2 s3 s4 a1 a2 b1 b2 A hA
 have hp := Fact.Keeps.below (FactU.keeps (PQ.keeps _ _)) HV.out.2.1 hp
 have hq := Fact.Keeps.below (FactU.keeps (PQ.keeps _ _)) HV.out.2.1 hq
 have hs := Fact.Keeps.below (FactU.keeps (PQ.keeps _ _)) HV.out.2.1 hs
 have ha := Fact.Keeps.below (FactU.keeps (CQ.keeps _)) HV.out.2.1 ha
 have hb := Fact.Keeps.below (FactU.keeps (CQ.keeps _)) HV.out.2.1 hb
 have px1 := Fact.Keeps.below (FactU.keeps (CQ.keeps x1)) HV.out.2.1 (show FactU (Mo A (w.heap.size + 5)) (CQ x1) (.agg #[q1,q2]) w NoA from ⟨_,_,rfl,gq1,gq2⟩)
 have py1 := Fact.Keeps.below (FactU.keeps (CQ.keeps y1)) HV.out.2.1 (show FactU (Mo A (w.heap.size + 5)) (CQ y1) (.agg #[q3,q4]) w NoA from ⟨_,_,rfl,gq3,gq4⟩)
 have px2 := Fact.Keeps.below (FactU.keeps (CQ.keeps x2)) HV.out.2.1 (show FactU (Mo A (w.heap.size + 5)) (CQ x2) (.agg #[s1,s2]) w NoA from ⟨_,_,rfl,gs1,gs2⟩)
 have py2 := Fact.Keeps.below (FactU.keeps (CQ.keeps y2)) HV.out.2.1 (show FactU (Mo A (w.heap.size + 5)) (CQ y2) (.agg #[s3,s4]) w NoA from ⟨_,_,rfl,gs3,gs4⟩)
 clear gp1 gp2 gp3 gp4 gq1 gq2 gq3 gq4 gs1 gs2 gs3 gs4 ga1 ga2 gb1 gb2 hA
 have hgood : ¬ (x0 * y1 = x1 * y0) ∧ ¬ (x1 * y2 = x2 * y1) ∧ ¬ (x2 * y0 = x0 * y2) := ⟨fun h => hgood (.inl h),fun h => hgood (.inr (.inl h)),fun h => hgood (.inr (.inr h))⟩
 have H1 := Lib.hid (fun w' (h : Below W.heap.size W w') => PSame_any x0 y0 x1 y1 _ _ NoA w' (Fact.Keeps.noA (PQ.keeps _ _) (Fact.Keeps.below (FactU.keeps (PQ.keeps _ _)) h hp)) (Fact.Keeps.noA (PQ.keeps _ _) (Fact.Keeps.below (FactU.keeps (PQ.keeps _ _)) h hq)) k k hx0 hy0 hx1 hy1 (by omega) false (by simp [hgood.1]))
 have H2 := Lib.hid (fun w' (h : Below W.heap.size W w') => PSame_any x1 y1 x2 y2 _ _ NoA w' (Fact.Keeps.noA (PQ.keeps _ _) (Fact.Keeps.below (FactU.keeps (PQ.keeps _ _)) h hq)) (Fact.Keeps.noA (PQ.keeps _ _) (Fact.Keeps.below (FactU.keeps (PQ.keeps _ _)) h hs)) k k hx1 hy1 hx2 hy2 (by omega) false (by simp [hgood.2.1]))
 have H3 := Lib.hid (fun w' (h : Below W.heap.size W w') => PSame_any x2 y2 x0 y0 _ _ NoA w' (Fact.Keeps.noA (PQ.keeps _ _) (Fact.Keeps.below (FactU.keeps (PQ.keeps _ _)) h hs)) (Fact.Keeps.noA (PQ.keeps _ _) (Fact.Keeps.below (FactU.keeps (PQ.keeps _ _)) h hp)) k k hx2 hy2 hx0 hy0 (by omega) false (by simp [hgood.2.2]))
 have HP := Lib.hid (And.intro hp (And.intro hq (And.intro hs (And.intro ha (And.intro hb (And.intro px1 (And.intro py1 (And.intro px2 py2))))))))
 clear hp hq hs ha hb px1 py1 px2 py2 hgood
 have hc := HV.out.2.2.2.2 W br
 obtain ⟨_,⟨c0,c1,c2,c3⟩,⟨d0,d1,d2,d3⟩,_⟩ := hc
 go_enter Tryz.func40,Tryz.ntmps40
 go_wp2_with fail
 rw [← HV.out.1]
 simp only [Nat.add_assoc,Nat.reduceAdd]
 refine (H1.out W br).mono ?_
 rintro e w1 ⟨rfl,hb1⟩
 clear c0 c1 c2 c3 d0 d1 d2 d3
 obtain ⟨_,⟨c0,c1,c2,c3⟩,⟨d0,d1,d2,d3⟩,⟨e0,e1,e2,e3⟩,_⟩ := HV.out.2.2.2.2 w1 hb1
 have HB1 := Lib.hid hb1
 clear hb1
 go_wp2_with fail
 refine (H2.out w1 HB1.out).mono ?_
 rintro e w2 ⟨rfl,hb2⟩
 have hb2 := HB1.out.trans (hb2.mono HB1.out.size)
 clear c0 c1 c2 c3 d0 d1 d2 d3 e0 e1 e2 e3
 obtain ⟨_,⟨c0,c1,c2,c3⟩,⟨d0,d1,d2,d3⟩,⟨e0,e1,e2,e3⟩,_⟩ := HV.out.2.2.2.2 w2 hb2
 have HB2 := Lib.hid hb2
 clear hb2
 go_wp2_with fail
 refine (H3.out w2 HB2.out).mono ?_
 rintro e w3 ⟨rfl,hb3⟩
 have hb3 := HB2.out.trans (hb3.mono HB2.out.size)
 clear c0 c1 c2 c3 d0 d1 d2 d3 e0 e1 e2 e3
 have hs0 : w.heap.size + 5 < w3.heap.size := by have h1 := hb3.size; have h2 := HV.out.2.2.2.1; omega
 have HB3 := Lib.hid hb3
 clear hb3 H1 H2 H3 HB1 HB2
 go_wp2_with fail
 have hw3 : ∀ f1 : World,Below w3.drew.heap.size w3.drew f1 → Below W.heap.size W f1 := fun f1 h => HB3.out.trans (((br.drew).trans h).mono HB3.out.size)
 obtain ⟨_,⟨c0,c1,c2,c3⟩,⟨d0,d1,d2,d3⟩,⟨e0,e1,e2,e3⟩,⟨l0,l1⟩,l2,l3⟩ := HV.out.2.2.2.2 w3 HB3.out
 have hs1 : w.heap.size < w3.heap.size := by omega
 have hs2 : w.heap.size + 1 < w3.heap.size := by omega
 have hs3 : w.heap.size + 2 < w3.heap.size := by omega
 have hs4 : w.heap.size + 3 < w3.heap.size := by omega
 have hs5 : w.heap.size + 4 < w3.heap.size := by omega
 have HR : Rcv (Mo A (w.heap.size + 5)) w3 := HV.out.2.2.1.below HB3.out
 obtain ⟨hp,hq,hs,ha,hb,_⟩ := HP.out
 have hp := Fact.Keeps.below (FactU.keeps (PQ.keeps _ _)) HB3.out hp
 have hq := Fact.Keeps.below (FactU.keeps (PQ.keeps _ _)) HB3.out hq
 have hs := Fact.Keeps.below (FactU.keeps (PQ.keeps _ _)) HB3.out hs
 have ha := Fact.Keeps.below (FactU.keeps (CQ.keeps _)) HB3.out ha
 have hb := Fact.Keeps.below (FactU.keeps (CQ.keeps _)) HB3.out hb
 refine wp_region_own [(.lit,[]),(.lit,[]),(.val,[]),(.lit,[]),(.val,[2]),(.lit,[]),(.lit,[]),(.val,[]),(.lit,[]),(.val,[7]),(.own (.cells #[.pointer none,.pointer none] 83 (0,0)),[]),(.own (.cells #[.pointer none,.pointer none] 83 (0,0)),[])]
  (pickF [(2,FactU (Mo A (w.heap.size + 5)) (CQ (x0 * y1 - y0 * x1))),(4,FactU (Mo A (w.heap.size + 5)) (CQ ((x0 * y1 - y0 * x1) * b))),(7,FactU (Mo A (w.heap.size + 5)) (CQ (x2 * y0 - y2 * x0))),(9,FactU (Mo A (w.heap.size + 5)) (CQ ((x2 * y0 - y2 * x0) * a)))]) (by kernel_rfl) ?_ ?_ ?_ (by simp) (by kernel_rfl)
 ·exact keeps_pick (by simp only [List.mem_cons,List.not_mem_nil,or_false]; rintro p (rfl | rfl | rfl | rfl) <;> exact FactU.keeps (CQ.keeps _))
 rotate_left
 ·intro q hq z hz
  have : z = .cells #[.pointer none,.pointer none] 83 (0,0) := by
   simp only [List.mem_cons,List.not_mem_nil,or_false] at hq
   rcases hq with rfl | rfl | rfl | rfl | rfl | rfl | rfl | rfl | rfl | rfl | rfl | rfl <;> simp at hz <;> exact hz.symm
  rw [this]; exact noW_num _ _ ⟨_,rfl⟩ ⟨_,rfl⟩ _
 ·repeat (refine ⟨_,fun f w1 h1 => by (have i0 := ct h1 hs1 c0; have i1 := ct h1 hs1 c1; have i2 := ct h1 hs1 c2; have i3 := ct h1 hs1 c3; have i4 := ct h1 hs2 d0; have i5 := ct h1 hs2 d1; have i6 := ct h1 hs2 d2; have i7 := ct h1 hs2 d3; have i8 := ct h1 hs3 e0; have i9 := ct h1 hs3 e1; have j0 := ct h1 hs3 e2; have j1 := ct h1 hs3 e3; have j2 := ct h1 hs4 l0; have j3 := ct h1 hs4 l1; have j4 := ct h1 hs5 l2; have j5 := ct h1 hs5 l3; go_simp; rfl),?_⟩)
  simp only [Act.put,nrA,nrB,nrC,Nat.reduceAdd]
  refine ⟨fun f w1 A1 k1 hA hN hd K hK => by
   go_simp
   refine (det_any x0 y0 x1 y1 _ _ (Un (Mo A (w.heap.size + 5)) A1) w1 (later (FactU.keeps (PQ.keeps _ _)) hp k1 hN) (later (FactU.keeps (PQ.keeps _ _)) hq k1 hN) (rcv_un (HR.below (br.drew.trans k1)) hA) k k hx0 hy0 hx1 hy1 (by omega)).mono ?_
   rintro e w' ⟨v,rfl,hb,hr⟩
   exact hK _ _ hb hr,?_⟩
  repeat (refine ⟨_,fun f w1 h1 => by (have i0 := ct h1 hs1 c0; have i1 := ct h1 hs1 c1; have i2 := ct h1 hs1 c2; have i3 := ct h1 hs1 c3; have i4 := ct h1 hs2 d0; have i5 := ct h1 hs2 d1; have i6 := ct h1 hs2 d2; have i7 := ct h1 hs2 d3; have i8 := ct h1 hs3 e0; have i9 := ct h1 hs3 e1; have j0 := ct h1 hs3 e2; have j1 := ct h1 hs3 e3; have j2 := ct h1 hs4 l0; have j3 := ct h1 hs4 l1; have j4 := ct h1 hs5 l2; have j5 := ct h1 hs5 l3; go_simp; rfl),?_⟩)
  simp only [Act.put,nrA,nrB,nrC,Nat.reduceAdd]
  refine ⟨fun f w1 A1 k1 hA hN hd K hK => by
   have i2 : CQ (x0 * y1 - y0 * x1) (f 2) w1 (Un (Mo A (w.heap.size + 5)) A1) := hd 2 (by simp)
   go_simp
   refine (QMul_any _ b _ _ (Un (Mo A (w.heap.size + 5)) A1) w1 i2 (later (FactU.keeps (CQ.keeps _)) hb k1 hN) (rcv_un (HR.below (br.drew.trans k1)) hA) _ k (ZL_sub (ZL_mul hx0 hy1) (ZL_mul hy0 hx1)) hzb (by omega)).mono ?_
   rintro e w' ⟨v,rfl,hb,hr⟩
   exact hK _ _ hb hr,?_⟩
  repeat (refine ⟨_,fun f w1 h1 => by (have i0 := ct h1 hs1 c0; have i1 := ct h1 hs1 c1; have i2 := ct h1 hs1 c2; have i3 := ct h1 hs1 c3; have i4 := ct h1 hs2 d0; have i5 := ct h1 hs2 d1; have i6 := ct h1 hs2 d2; have i7 := ct h1 hs2 d3; have i8 := ct h1 hs3 e0; have i9 := ct h1 hs3 e1; have j0 := ct h1 hs3 e2; have j1 := ct h1 hs3 e3; have j2 := ct h1 hs4 l0; have j3 := ct h1 hs4 l1; have j4 := ct h1 hs5 l2; have j5 := ct h1 hs5 l3; go_simp; rfl),?_⟩)
  simp only [Act.put,nrA,nrB,nrC,Nat.reduceAdd]
  refine ⟨fun f w1 A1 k1 hA hN hd K hK => by
   go_simp
   refine (det_any x2 y2 x0 y0 _ _ (Un (Mo A (w.heap.size + 5)) A1) w1 (later (FactU.keeps (PQ.keeps _ _)) hs k1 hN) (later (FactU.keeps (PQ.keeps _ _)) hp k1 hN) (rcv_un (HR.below (br.drew.trans k1)) hA) k k hx2 hy2 hx0 hy0 (by omega)).mono ?_
   rintro e w' ⟨v,rfl,hb,hr⟩
   exact hK _ _ hb hr,?_⟩
  repeat (refine ⟨_,fun f w1 h1 => by (have i0 := ct h1 hs1 c0; have i1 := ct h1 hs1 c1; have i2 := ct h1 hs1 c2; have i3 := ct h1 hs1 c3; have i4 := ct h1 hs2 d0; have i5 := ct h1 hs2 d1; have i6 := ct h1 hs2 d2; have i7 := ct h1 hs2 d3; have i8 := ct h1 hs3 e0; have i9 := ct h1 hs3 e1; have j0 := ct h1 hs3 e2; have j1 := ct h1 hs3 e3; have j2 := ct h1 hs4 l0; have j3 := ct h1 hs4 l1; have j4 := ct h1 hs5 l2; have j5 := ct h1 hs5 l3; go_simp; rfl),?_⟩)
  simp only [Act.put,nrA,nrB,nrC,Nat.reduceAdd]
  refine ⟨fun f w1 A1 k1 hA hN hd K hK => by
   have i7 : CQ (x2 * y0 - y2 * x0) (f 7) w1 (Un (Mo A (w.heap.size + 5)) A1) := hd 7 (by simp)
   go_simp
   refine (QMul_any _ a _ _ (Un (Mo A (w.heap.size + 5)) A1) w1 i7 (later (FactU.keeps (CQ.keeps _)) ha k1 hN) (rcv_un (HR.below (br.drew.trans k1)) hA) _ k (ZL_sub (ZL_mul hx2 hy0) (ZL_mul hy2 hx0)) hza (by omega)).mono ?_
   rintro e w' ⟨v,rfl,hb,hr⟩
   exact hK _ _ hb hr,?_⟩
  refine ⟨fun f w => by go_simp,fun f w => by go_simp,?_⟩
  intro f w1 A1 k1 hA1 hfr hap hF
  have i4 : FactU (Mo A (w.heap.size + 5)) (CQ ((x0 * y1 - y0 * x1) * b)) (f 4) w1 A1 := hF.1.1.1.1.2
  have i9 : FactU (Mo A (w.heap.size + 5)) (CQ ((x2 * y0 - y2 * x0) * a)) (f 9) w1 A1 := hF.1.1.2
  obtain ⟨m,em,am,hm,zm⟩ := hF.1.2
  obtain ⟨n,en,an,hn,zn⟩ := hF.2
  have hmn : m ≠ n := fun e => by
   have := hap 10 (by decide) 11 (by decide) (by rw [em,en,e])
   omega
  obtain ⟨t1,t2,e4⟩ := cq_agg i4
  obtain ⟨t3,t4,e9⟩ := cq_agg i9
  clear hF hap
  simp only [Act.put,nrA,nrB,nrC]
  rw [em,en,e4,e9]
  rw [e4] at i4
  rw [e9] at i9
  clear em en e4 e9
  generalize f 2 = z2
  generalize f 7 = z7
  obtain ⟨k10,k11,k12,k13⟩ := cell_two zm
  obtain ⟨k20,k21,k22,k23⟩ := cell_two zn
  go_wp2_with fail
  obtain ⟨w4,hw4⟩ : ∃ w4,w4 = (((w1.setCell ⟨m,0,none⟩ (.pointer (some ⟨t1,0,none⟩))).setCell ⟨m,1,none⟩ (.pointer (some ⟨t2,0,none⟩))).setCell ⟨n,0,none⟩ (.pointer (some ⟨t3,0,none⟩))).setCell ⟨n,1,none⟩ (.pointer (some ⟨t4,0,none⟩)) := ⟨_,rfl⟩
  rw [← hw4]
  have j4 : FactU (Mo A (w.heap.size + 5)) (CQ ((x0 * y1 - y0 * x1) * b)) (.agg #[.pointer (some ⟨t1,0,none⟩),.pointer (some ⟨t2,0,none⟩)]) w4 NoA := by
   rw [hw4]; exact Fact.Keeps.noA (FactU.keeps (CQ.keeps _)) (keep_setA (FactU.keeps (CQ.keeps _)) an (keep_setA (FactU.keeps (CQ.keeps _)) an (keep_setA (FactU.keeps (CQ.keeps _)) am (keep_setA (FactU.keeps (CQ.keeps _)) am i4))))
  have j9 : FactU (Mo A (w.heap.size + 5)) (CQ ((x2 * y0 - y2 * x0) * a)) (.agg #[.pointer (some ⟨t3,0,none⟩),.pointer (some ⟨t4,0,none⟩)]) w4 NoA := by
   rw [hw4]; exact Fact.Keeps.noA (FactU.keeps (CQ.keeps _)) (keep_setA (FactU.keeps (CQ.keeps _)) an (keep_setA (FactU.keeps (CQ.keeps _)) an (keep_setA (FactU.keeps (CQ.keeps _)) am (keep_setA (FactU.keeps (CQ.keeps _)) am i9))))
  have hWm : W.heap.size ≤ m := Nat.le_trans HB3.out.size hm
  have hWn : W.heap.size ≤ n := Nat.le_trans HB3.out.size hn
  have hb4 : Below W.heap.size W w4 := by
   rw [hw4]; exact ((((hw3 w1 k1).setCell (p := ⟨m,0,none⟩) hWm _).setCell (p := ⟨m,1,none⟩) hWm _).setCell (p := ⟨n,0,none⟩) hWn _).setCell (p := ⟨n,1,none⟩) hWn _
  obtain ⟨g0,g1,g2,g3⟩ := set_four hmn zm zn (.pointer (some ⟨t1,0,none⟩)) (.pointer (some ⟨t2,0,none⟩)) (.pointer (some ⟨t3,0,none⟩)) (.pointer (some ⟨t4,0,none⟩))
  rw [← hw4] at g0 g1 g2 g3
  have hm4 : m < w4.heap.size := by rw [hw4]; simpa [World.setCell] using (Array.getElem?_eq_some_iff.1 zm).1
  have hn4 : n < w4.heap.size := by rw [hw4]; simpa [World.setCell] using (Array.getElem?_eq_some_iff.1 zn).1
  have HB4 := Lib.hid hb4
  clear k10 k11 k12 k13 k20 k21 k22 k23 c0 c1 c2 c3 d0 d1 d2 d3 e0 e1 e2 e3 l0 l1 l2 l3 hs1 hs2 hs3 hs4 hs5 hp hq hs ha hb i4 i9 hw4 hb4 HR hw3 zm zn hmn hA1 hfr am an hm hn hWm hWn k1
  obtain ⟨_,⟨c0,c1,c2,c3⟩,⟨d0,d1,d2,d3⟩,⟨e0,e1,e2,e3⟩,_⟩ := HV.out.2.2.2.2 w4 HB4.out
  obtain ⟨_,_,_,_,_,px1,py1,px2,py2⟩ := HP.out
  have px1 := Fact.Keeps.below (FactU.keeps (CQ.keeps _)) HB4.out px1
  have py1 := Fact.Keeps.below (FactU.keeps (CQ.keeps _)) HB4.out py1
  have px2 := Fact.Keeps.below (FactU.keeps (CQ.keeps _)) HB4.out px2
  have py2 := Fact.Keeps.below (FactU.keeps (CQ.keeps _)) HB4.out py2
  have hz4 : w.heap.size + 6 ≤ w4.heap.size := by have := HB4.out.size; have := HV.out.2.2.2.1; omega
  have hs2 : w.heap.size + 1 < w4.heap.size := by omega
  have hs3 : w.heap.size + 2 < w4.heap.size := by omega
  have HR : Rcv (Mo A (w.heap.size + 5)) w4 := HV.out.2.2.1.below HB4.out
  have LD1 := ZL_mul (ZL_sub (ZL_mul hx0 hy1) (ZL_mul hy0 hx1)) hzb
  have LD2 := ZL_mul (ZL_sub (ZL_mul hx2 hy0) (ZL_mul hy2 hx0)) hza
  refine wp_region_inv [(.lit,[]),(.lit,[]),(.lit,[]),(.val,[]),(.lit,[]),(.lit,[]),(.lit,[]),(.val,[]),(.val,[3,7]),(.lit,[]),(.lit,[]),(.lit,[]),(.val,[]),(.lit,[]),(.lit,[]),(.lit,[]),(.val,[]),(.val,[12,16])]
   (pickF [(3,FactU (Mo A (w.heap.size + 5)) (CQ (((x0 * y1 - y0 * x1) * b) * x2))),(7,FactU (Mo A (w.heap.size + 5)) (CQ (((x2 * y0 - y2 * x0) * a) * x1))),(8,FactU (Mo A (w.heap.size + 5)) (CQ (lastX x0 y0 x1 y1 x2 y2 a b))),(12,FactU (Mo A (w.heap.size + 5)) (CQ (((x0 * y1 - y0 * x1) * b) * y2))),(16,FactU (Mo A (w.heap.size + 5)) (CQ (((x2 * y0 - y2 * x0) * a) * y1))),(17,FactU (Mo A (w.heap.size + 5)) (CQ (lastY x0 y0 x1 y1 x2 y2 a b)))]) (by kernel_rfl) ?_ ?_ (by simp) (by simp) (by kernel_rfl)
  ·exact keeps_pick (by simp only [List.mem_cons,List.not_mem_nil,or_false]; rintro p (rfl | rfl | rfl | rfl | rfl | rfl) <;> exact FactU.keeps (CQ.keeps _))
  ·repeat (refine ⟨_,fun f w1 h1 => by (have i4 := ct h1 hs2 d0; have i5 := ct h1 hs2 d1; have i6 := ct h1 hs2 d2; have i7 := ct h1 hs2 d3; have i8 := ct h1 hs3 e0; have i9 := ct h1 hs3 e1; have j0 := ct h1 hs3 e2; have j1 := ct h1 hs3 e3; have j2 := ct h1 hm4 g0; have j3 := ct h1 hm4 g1; have j4 := ct h1 hn4 g2; have j5 := ct h1 hn4 g3; go_simp; rfl),?_⟩)
   simp only [Act.put,nrA,nrB,nrC,Nat.reduceAdd]
   refine ⟨fun f w1 A1 k1 hA hN hd K hK => by
    go_simp
    refine (QMul_any ((x0 * y1 - y0 * x1) * b) x2 _ _ (Un (Mo A (w.heap.size + 5)) A1) w1 (later (FactU.keeps (CQ.keeps _)) j4 k1 hN) (later (FactU.keeps (CQ.keeps _)) px2 k1 hN) (rcv_un (HR.below (br.drew.trans k1)) hA) _ k LD1 hx2 (by omega)).mono ?_
    rintro e w' ⟨v,rfl,hb,hr⟩
    exact hK _ _ hb hr,?_⟩
   repeat (refine ⟨_,fun f w1 h1 => by (have i4 := ct h1 hs2 d0; have i5 := ct h1 hs2 d1; have i6 := ct h1 hs2 d2; have i7 := ct h1 hs2 d3; have i8 := ct h1 hs3 e0; have i9 := ct h1 hs3 e1; have j0 := ct h1 hs3 e2; have j1 := ct h1 hs3 e3; have j2 := ct h1 hm4 g0; have j3 := ct h1 hm4 g1; have j4 := ct h1 hn4 g2; have j5 := ct h1 hn4 g3; go_simp; rfl),?_⟩)
   simp only [Act.put,nrA,nrB,nrC,Nat.reduceAdd]
   refine ⟨fun f w1 A1 k1 hA hN hd K hK => by
    go_simp
    refine (QMul_any ((x2 * y0 - y2 * x0) * a) x1 _ _ (Un (Mo A (w.heap.size + 5)) A1) w1 (later (FactU.keeps (CQ.keeps _)) j9 k1 hN) (later (FactU.keeps (CQ.keeps _)) px1 k1 hN) (rcv_un (HR.below (br.drew.trans k1)) hA) _ k LD2 hx1 (by omega)).mono ?_
    rintro e w' ⟨v,rfl,hb,hr⟩
    exact hK _ _ hb hr,?_⟩
   simp only [Act.put,nrA,nrB,nrC,Nat.reduceAdd]
   refine ⟨fun f w1 A1 k1 hA hN hd K hK => by
    have i3 : CQ (((x0 * y1 - y0 * x1) * b) * x2) (f 3) w1 (Un (Mo A (w.heap.size + 5)) A1) := hd 3 (by simp)
    have i7 : CQ (((x2 * y0 - y2 * x0) * a) * x1) (f 7) w1 (Un (Mo A (w.heap.size + 5)) A1) := hd 7 (by simp)
    go_simp
    refine (QAdd_any _ _ _ _ (Un (Mo A (w.heap.size + 5)) A1) w1 i3 i7 (rcv_un (HR.below (br.drew.trans k1)) hA) _ _ ((ZL_mul LD1 hx2).mono (Nat.le_refl _)) (ZL_mul LD2 hx1) (by omega)).mono ?_
    rintro e w' ⟨v,rfl,hb,hr⟩
    exact hK _ _ hb hr,?_⟩
   repeat (refine ⟨_,fun f w1 h1 => by (have i4 := ct h1 hs2 d0; have i5 := ct h1 hs2 d1; have i6 := ct h1 hs2 d2; have i7 := ct h1 hs2 d3; have i8 := ct h1 hs3 e0; have i9 := ct h1 hs3 e1; have j0 := ct h1 hs3 e2; have j1 := ct h1 hs3 e3; have j2 := ct h1 hm4 g0; have j3 := ct h1 hm4 g1; have j4 := ct h1 hn4 g2; have j5 := ct h1 hn4 g3; go_simp; rfl),?_⟩)
   simp only [Act.put,nrA,nrB,nrC,Nat.reduceAdd]
   refine ⟨fun f w1 A1 k1 hA hN hd K hK => by
    go_simp
    refine (QMul_any ((x0 * y1 - y0 * x1) * b) y2 _ _ (Un (Mo A (w.heap.size + 5)) A1) w1 (later (FactU.keeps (CQ.keeps _)) j4 k1 hN) (later (FactU.keeps (CQ.keeps _)) py2 k1 hN) (rcv_un (HR.below (br.drew.trans k1)) hA) _ k LD1 hy2 (by omega)).mono ?_
    rintro e w' ⟨v,rfl,hb,hr⟩
    exact hK _ _ hb hr,?_⟩
   repeat (refine ⟨_,fun f w1 h1 => by (have i4 := ct h1 hs2 d0; have i5 := ct h1 hs2 d1; have i6 := ct h1 hs2 d2; have i7 := ct h1 hs2 d3; have i8 := ct h1 hs3 e0; have i9 := ct h1 hs3 e1; have j0 := ct h1 hs3 e2; have j1 := ct h1 hs3 e3; have j2 := ct h1 hm4 g0; have j3 := ct h1 hm4 g1; have j4 := ct h1 hn4 g2; have j5 := ct h1 hn4 g3; go_simp; rfl),?_⟩)
   simp only [Act.put,nrA,nrB,nrC,Nat.reduceAdd]
   refine ⟨fun f w1 A1 k1 hA hN hd K hK => by
    go_simp
    refine (QMul_any ((x2 * y0 - y2 * x0) * a) y1 _ _ (Un (Mo A (w.heap.size + 5)) A1) w1 (later (FactU.keeps (CQ.keeps _)) j9 k1 hN) (later (FactU.keeps (CQ.keeps _)) py1 k1 hN) (rcv_un (HR.below (br.drew.trans k1)) hA) _ k LD2 hy1 (by omega)).mono ?_
    rintro e w' ⟨v,rfl,hb,hr⟩
    exact hK _ _ hb hr,?_⟩
   simp only [Act.put,nrA,nrB,nrC,Nat.reduceAdd]
   refine ⟨fun f w1 A1 k1 hA hN hd K hK => by
    have i12 : CQ (((x0 * y1 - y0 * x1) * b) * y2) (f 12) w1 (Un (Mo A (w.heap.size + 5)) A1) := hd 12 (by simp)
    have i16 : CQ (((x2 * y0 - y2 * x0) * a) * y1) (f 16) w1 (Un (Mo A (w.heap.size + 5)) A1) := hd 16 (by simp)
    go_simp
    refine (QAdd_any _ _ _ _ (Un (Mo A (w.heap.size + 5)) A1) w1 i12 i16 (rcv_un (HR.below (br.drew.trans k1)) hA) _ _ ((ZL_mul LD1 hy2).mono (Nat.le_refl _)) (ZL_mul LD2 hy1) (by omega)).mono ?_
    rintro e w' ⟨v,rfl,hb,hr⟩
    exact hK _ _ hb hr,?_⟩
   intro f w1 k1 hF
   have iX : CQ (lastX x0 y0 x1 y1 x2 y2 a b) (f 8) w1 (Mo A (w.heap.size + 5)) := FactU.done (CQ.keeps _) hF.1.1.1.2
   have iY : CQ (lastY x0 y0 x1 y1 x2 y2 a b) (f 17) w1 (Mo A (w.heap.size + 5)) := FactU.done (CQ.keeps _) hF.2
   clear hF
   simp only [Act.put,nrA,nrB,nrC]
   generalize f 3 = z3
   generalize f 7 = z7'
   generalize f 12 = z12
   generalize f 16 = z16
   generalize f 8 = z8 at *
   generalize f 17 = z17 at *
   obtain ⟨v1,v2,rfl,r1,r2⟩ := iX
   obtain ⟨v3,v4,rfl,r3,r4⟩ := iY
   have hb1 : Below W.heap.size W w1 := HB4.out.trans ((br.drew.trans k1).mono HB4.out.size)
   obtain ⟨⟨g0,g1,g2,g3,g4,g5,g6,g7⟩,_⟩ := HV.out.2.2.2.2 w1 hb1
   have HE := Lib.hid (And.intro r1 (And.intro r2 (And.intro r3 (And.intro r4 (HV.out.2.1.trans (hb1.mono HV.out.2.1.size))))))
   obtain ⟨m1,rfl⟩ := r1.shape
   obtain ⟨m2,rfl⟩ := r2.shape
   obtain ⟨m3,rfl⟩ := r3.shape
   obtain ⟨m4,rfl⟩ := r4.shape
   clear c0 c1 c2 c3 d0 d1 d2 d3 e0 e1 e2 e3 px1 py1 px2 py2 j4 j9 r1 r2 r3 r4 k1 hb1 HR
   go_wp2_with fail
   refine bodyPost_ret (v := .tuple #[.agg #[.pointer (some ⟨m1,0,none⟩),.pointer (some ⟨m2,0,none⟩),.pointer (some ⟨m3,0,none⟩),.pointer (some ⟨m4,0,none⟩)],.int .i64 0]) (by simp [results,Tryz.results40,go_sem,g0,g1,g2,g3]) rfl ?_
   obtain ⟨u,hu,hr⟩ := put_p HE.out.2.2.2.2 HE.out.1 HE.out.2.1 HE.out.2.2.1 HE.out.2.2.2.1 (show w.heap.size ≤ w.heap.size + 5 by omega)
   cases hu
   exact ⟨_,rfl,hr⟩
end Go.Proofs.YtepefgkihnjjaaaGreat
namespace Go.Proofs.YtepefgkihnjjaaaGreat
open Go.RowKit Tr
def encQ (z : QC) : Value := encG z.re z.im
abbrev Pt := Option QC
def encP : Pt → Value
 | none => infP
 | some z => encPt z
def ptX : Pt → QC
 | none => ⟨1,0⟩
 | some z => z
def ptY : Pt → QC
 | none => ⟨0,0⟩
 | some _ => ⟨1,0⟩
def ShortZ (z : QC) : Prop := ShortF z.re ∧ ShortF z.im
def ShortP : Pt → Prop
 | none => True
 | some z => ShortZ z
theorem RL_short {q : Rat} (h : ShortF q) : RL q 1024 := by
 refine ⟨?_,?_⟩
 ·exact Nat.le_trans (wl_size (numS_strN _)) h.1
 ·exact Nat.le_trans (wl_size (numS_strN _)) h.2
theorem RL_zero : RL 0 1024 := (RL_i64 0 (by decide) (by decide)).mono (by decide)
theorem RL_one : RL 1 1024 := (RL_i64 1 (by decide) (by decide)).mono (by decide)
theorem ZL_short {z : QC} (h : ShortZ z) : ZL z 1024 := ⟨RL_short h.1,RL_short h.2⟩
theorem ZL_ptX {p : Pt} (h : ShortP p) : ZL (ptX p) 1024 := by
 cases p with
 | none => exact ⟨RL_one,RL_zero⟩
 | some z => exact ZL_short h
theorem ZL_ptY (p : Pt) : ZL (ptY p) 1024 := by
 cases p with
 | none => exact ⟨RL_zero,RL_zero⟩
 | some z => exact ⟨RL_one,RL_zero⟩
end Go.Proofs.YtepefgkihnjjaaaGreat
namespace Go.Proofs.YtepefgkihnjjaaaGreat
open Go.RowKit Tr
theorem strN_den (q : Rat) : numS (strN q.den) ≠ 0 := by rw [numS_strN]; exact q.den_nz
theorem divInt_str (q : Rat) : Rat.divInt (sgn (decide (q.num < 0)) (numS (strN q.num.natAbs))) (sgn false (numS (strN q.den))) = q := by
 rw [numS_strN,numS_strN,sgn_self]
 exact Rat.num_divInt_den q
theorem size_short {n : Nat} (h : (strN n).size ≤ 1024) : (strN n).size < 274877906944 := by omega
theorem encQ_parts (z : QC) (h : ShortZ z) : ∃ n1 s1 n2 s2 n3 s3 n4 s4,encQ z = .agg #[.bool n1,.string s1,.bool n2,.string s2,.bool n3,.string s3,.bool n4,.string s4] ∧
  ∀ (A : Nat → Prop) (w : World),Rcv A w → Calls Tryz.prog 38 #[.agg #[.bool n1,.string s1,.bool n2,.string s2,.bool n3,.string s3,.bool n4,.string s4]] w fun e w' => ∃ u,e = .returned u ∧ Below w.heap.size w w' ∧ CQ z u w' A := by
 refine ⟨_,_,_,_,_,_,_,_,rfl,fun A w hA => ?_⟩
 have := XOf_any (decide (z.re.num < 0)) false (decide (z.im.num < 0)) false (strN z.re.num.natAbs) (strN z.re.den) (strN z.im.num.natAbs) (strN z.im.den) (strN_den _) (strN_den _) (size_short h.1.1) (size_short h.1.2) (size_short h.2.1) (size_short h.2.2) A w hA
 rw [divInt_str,divInt_str] at this
 exact this
theorem encP_parts (p : Pt) (h : ShortP p) : ∃ i n1 s1 n2 s2 n3 s3 n4 s4,encP p = .agg #[.bool i,.bool n1,.string s1,.bool n2,.string s2,.bool n3,.string s3,.bool n4,.string s4] ∧
  ∀ (A : Nat → Prop) (w : World),Rcv A w → Calls Tryz.prog 39 #[.agg #[.bool i,.bool n1,.string s1,.bool n2,.string s2,.bool n3,.string s3,.bool n4,.string s4]] w fun e w' => ∃ u,e = .returned u ∧ Below w.heap.size w w' ∧ PQ (ptX p) (ptY p) u w' A := by
 cases p with
 | none =>
  refine ⟨_,_,_,_,_,_,_,_,_,rfl,fun A w hA => ?_⟩
  exact XPoint_any true false false false false ⟨#[]⟩ ⟨#[]⟩ ⟨#[]⟩ ⟨#[]⟩ (fun h => by cases h) (fun h => by cases h) (by decide) (by decide) (by decide) (by decide) A w hA 1 0 0 rfl rfl rfl
 | some z =>
  refine ⟨_,_,_,_,_,_,_,_,_,rfl,fun A w hA => ?_⟩
  exact XPoint_any false (decide (z.re.num < 0)) false (decide (z.im.num < 0)) false (strN z.re.num.natAbs) (strN z.re.den) (strN z.im.num.natAbs) (strN z.im.den) (fun _ => strN_den _) (fun _ => strN_den _) (size_short h.1.1) (size_short h.1.2) (size_short h.2.1) (size_short h.2.2) A w hA z.re z.im 1 (by rw [divInt_str]; rfl) (by rw [divInt_str]; rfl) rfl
instance (x0 y0 x1 y1 x2 y2 : QC) : Decidable (lastBad x0 y0 x1 y1 x2 y2) := by unfold lastBad; exact inferInstance
def lastC (x0 y0 x1 y1 x2 y2 : QC) : Int := if lastBad x0 y0 x1 y1 x2 y2 then 370 else 0
def PZ (bad : Prop) (x y : QC) : Fact := fun u w A => (bad ∧ u = zPQ) ∨ (¬ bad ∧ PQ x y u w A)
theorem PZ.keeps (bad : Prop) (x y : QC) : (PZ bad x y).Keeps := fun v w w' A A' hs hk h => h.imp id (fun ⟨a,b⟩ => ⟨a,PQ.keeps x y v w w' A A' hs hk b⟩)
theorem pq_agg {x y : QC} {v : Value} {w : World} {A : Nat → Prop} (h : PQ x y v w A) : ∃ m1 m2 m3 m4,v = .agg #[.pointer (some ⟨m1,0,none⟩),.pointer (some ⟨m2,0,none⟩),.pointer (some ⟨m3,0,none⟩),.pointer (some ⟨m4,0,none⟩)] := by
 obtain ⟨u1,u2,u3,u4,rfl,h1,h2,h3,h4⟩ := h
 obtain ⟨m1,rfl⟩ := h1.shape
 obtain ⟨m2,rfl⟩ := h2.shape
 obtain ⟨m3,rfl⟩ := h3.shape
 obtain ⟨m4,rfl⟩ := h4.shape
 exact ⟨m1,m2,m3,m4,rfl⟩
theorem pz_agg {bad : Prop} {x y : QC} {v : Value} {w : World} {A : Nat → Prop} (h : PZ bad x y v w A) : ∃ m1 m2 m3 m4,v = .agg #[.pointer m1,.pointer m2,.pointer m3,.pointer m4] := by
 rcases h with ⟨_,rfl⟩ | ⟨_,h⟩
 ·exact ⟨none,none,none,none,rfl⟩
 ·obtain ⟨m1,m2,m3,m4,rfl⟩ := pq_agg h
  exact ⟨_,_,_,_,rfl⟩
def Tup (R : Fact) (c : Int) : Fact := fun v w A => ∃ u,v = .tuple #[u,.int .i64 c] ∧ R u w A
theorem Tup.keeps {R : Fact} (h : R.Keeps) (c : Int) : (Tup R c).Keeps := fun v w w' A A' hs hk ⟨u,e,hu⟩ => ⟨u,e,h _ _ _ _ _ hs hk hu⟩
theorem last_any (x0 y0 x1 y1 x2 y2 a b : QC) (vp vq vs va vb : Value) (A : Nat → Prop) (w : World) (hA : Rcv A w) (hp : PQ x0 y0 vp w A) (hq : PQ x1 y1 vq w A) (hs : PQ x2 y2 vs w A) (ha : CQ a va w A) (hb : CQ b vb w A) (k : Nat) (hk : k ≤ 1000000) (hx0 : ZL x0 k) (hy0 : ZL y0 k) (hx1 : ZL x1 k) (hy1 : ZL y1 k) (hx2 : ZL x2 k) (hy2 : ZL y2 k) (hza : ZL a k) (hzb : ZL b k) :
  Calls Tryz.prog 40 #[vp,vq,vs,va,vb] w fun e w' => ∃ v,e = .returned v ∧ Below w.heap.size w w' ∧ Tup (PZ (lastBad x0 y0 x1 y1 x2 y2) (lastX x0 y0 x1 y1 x2 y2 a b) (lastY x0 y0 x1 y1 x2 y2 a b)) (lastC x0 y0 x1 y1 x2 y2) v w' A := by
 by_cases h : lastBad x0 y0 x1 y1 x2 y2
 ·refine (last_bad x0 y0 x1 y1 x2 y2 vp vq vs va vb a b A w hp hq hs ha hb k hk hx0 hy0 hx1 hy1 hx2 hy2 h).mono ?_
  rintro e w' ⟨rfl,hb⟩
  exact ⟨_,rfl,hb,_,by unfold lastC; rw [if_pos h],.inl ⟨h,rfl⟩⟩
 ·refine (last_good x0 y0 x1 y1 x2 y2 a b vp vq vs va vb A w hA hp hq hs ha hb k hk hx0 hy0 hx1 hy1 hx2 hy2 hza hzb h).mono ?_
  rintro e w' ⟨u,rfl,hb,hr⟩
  exact ⟨_,rfl,hb,_,by unfold lastC; rw [if_neg h],.inr ⟨h,hr⟩⟩
end Go.Proofs.YtepefgkihnjjaaaGreat
