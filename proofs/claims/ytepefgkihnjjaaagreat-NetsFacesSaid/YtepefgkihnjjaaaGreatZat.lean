/- Laws for the walk. -/
import Derived.Test.YtepefgkihnjjaaaGreatZzz
import Derived.Test.YtepefgkihnjjaaaGreatZar
import Derived.Test.YtepefgkihnjjaaaGreatZas
set_option linter.unusedVariables false
namespace Go.Proofs.YtepefgkihnjjaaaGreat
open Go.RowKit Tr
theorem obox (w : World) (a0 a1 a2 a3 a4 a5 a6 a7 : Value) :
  ∃ W,Hid (W = (w.alloc (.cells #[a0,a1,a2,a3,a4,a5,a6,a7] 27)).alloc (.cells #[.pointer none,.pointer none] 66) ∧ Below w.heap.size w W ∧ W.heap.size = w.heap.size + 2 ∧ ∀ w1,Below W.heap.size W w1 → (w1.cell? ⟨w.heap.size,0,none⟩ = some (a0) ∧ w1.cell? ⟨w.heap.size,1,none⟩ = some (a1) ∧ w1.cell? ⟨w.heap.size,2,none⟩ = some (a2) ∧ w1.cell? ⟨w.heap.size,3,none⟩ = some (a3) ∧ w1.cell? ⟨w.heap.size,4,none⟩ = some (a4) ∧ w1.cell? ⟨w.heap.size,5,none⟩ = some (a5) ∧ w1.cell? ⟨w.heap.size,6,none⟩ = some (a6) ∧ w1.cell? ⟨w.heap.size,7,none⟩ = some (a7)) ∧
   (w1.cell? ⟨w.heap.size + 1,0,none⟩ = some (.pointer none) ∧ w1.cell? ⟨w.heap.size + 1,1,none⟩ = some (.pointer none) ∧ w1.frozen? ⟨w.heap.size + 1,0,none⟩ = false ∧ w1.frozen? ⟨w.heap.size + 1,1,none⟩ = false)) := by
 obtain ⟨w1,hw1⟩ : ∃ w1,w1 = w.alloc (.cells #[a0,a1,a2,a3,a4,a5,a6,a7] 27) := ⟨_,rfl⟩
 have hz1 : w1.heap.size = w.heap.size + 1 := by rw [hw1]; simp
 have hb1 : Below w.heap.size w w1 := by rw [hw1]; exact br.alloc (Nat.le_refl _) _
 obtain ⟨w2,hw2⟩ : ∃ w2,w2 = w1.alloc (.cells #[.pointer none,.pointer none] 66) := ⟨_,rfl⟩
 have hz2 : w2.heap.size = w.heap.size + 2 := by rw [hw2]; simp [hz1]
 have hb2 : Below w1.heap.size w1 w2 := by rw [hw2]; exact br.alloc (Nat.le_refl _) _
 have t2 : Below w2.heap.size w2 w2 := Below.refl _ _
 have t1 : Below w1.heap.size w1 w2 := hb2.trans (t2.mono hb2.size)
 refine ⟨w2,Lib.hid ⟨by rw [hw2,hw1],hb1.trans (t1.mono hb1.size),hz2,fun w' h => ?_⟩⟩
 have e0 := (t1.trans (h.mono t1.size)).block w.heap.size (by rw [hw1]; simp)
 rw [hw1,heap_alloc_new] at e0
 have e1 := (t2.trans (h.mono t2.size)).block w1.heap.size (by rw [hw2]; simp)
 rw [hw2,heap_alloc_new] at e1
 rw [hz1] at e1
 refine ⟨?_,?_⟩ <;> simp [World.cell?,World.frozen?,e0,e1]
def OfF (v0 : Value) : Fact := fun u w A => ∃ z,NQ z u w A ∧ (GaussOk v0 → v0 = encG z.re z.im)
theorem OfF.keeps (v0 : Value) : (OfF v0).Keeps := fun u w w' A A' hs hk ⟨z,h,e⟩ => ⟨z,NQ.keeps z u w w' A A' hs hk h,e⟩
theorem rcv_num {w : World} {A : Nat → Prop} {n : Nat} {W : World} (hA : Rcv A w) (hb : Below w.heap.size w W) (hn : W.heap[n]? = some (.cells #[.pointer none,.pointer none] 66 (0,0))) : Rcv (Mo A n) W :=
 fun b h => h.elim (fun h => (hA.below hb) b h) (fun h => by subst h; exact ⟨_,hn,noW_num _ _ ⟨_,rfl⟩ ⟨_,rfl⟩ _⟩)
set_option maxRecDepth 100000 in
set_option maxHeartbeats 3200000 in
theorem EOf_any (n1 n2 n3 n4 : Bool) (s1 s2 s3 s4 : ByteArray) (l1 : s1.size < 274877906944) (l2 : s2.size < 274877906944) (l3 : s3.size < 274877906944) (l4 : s4.size < 274877906944) (A : Nat → Prop) (w : World) (hA : Rcv A w) (r : Bool) (hr : r = true ↔ GaussOk (.agg #[.bool n1,.string s1,.bool n2,.string s2,.bool n3,.string s3,.bool n4,.string s4])) :
  Calls Tryz.prog 104 #[.agg #[.bool n1,.string s1,.bool n2,.string s2,.bool n3,.string s3,.bool n4,.string s4]] w fun e w' => ∃ u,e = .returned (.tuple #[u,.bool r]) ∧ Below w.heap.size w w' ∧ OfF (.agg #[.bool n1,.string s1,.bool n2,.string s2,.bool n3,.string s3,.bool n4,.string s4]) u w' A := by
 obtain ⟨W,HV⟩ := obox w (.bool n1) (.string s1) (.bool n2) (.string s2) (.bool n3) (.string s3) (.bool n4) (.string s4)
 have H1 := Lib.hid (fun w => ERat_any n1 n2 s1 s2 l1 l2 w)
 have H2 := Lib.hid (fun w => ERat_any n3 n4 s3 s4 l3 l4 w)
 have hs0 : w.heap.size < W.heap.size := by have := HV.out.2.2.1; omega
 obtain ⟨⟨e0,e1,e2,e3,e4,e5,e6,e7⟩,_⟩ := HV.out.2.2.2 W br
 have hR : Rcv (Mo A (w.heap.size + 1)) W := rcv_num hA HV.out.2.1 (by
  rw [HV.out.1]
  have := heap_alloc_new (w.alloc (.cells #[.bool n1,.string s1,.bool n2,.string s2,.bool n3,.string s3,.bool n4,.string s4] 27)) (.cells #[.pointer none,.pointer none] 66 (0,0))
  simpa using this)
 have HR := Lib.hid (And.intro hR hr)
 clear hA hr hR
 go_enter Tryz.func104,Tryz.ntmps104
 go_wp2_with fail
 rw [← HV.out.1]
 refine wp_region_inv [(.lit,[]),(.lit,[]),(.val,[]),(.lit,[]),(.lit,[]),(.val,[])]
  (pickF [(2,FactU (Mo A (w.heap.size + 1)) (MayF (.agg #[.bool n1,.string s1,.bool n2,.string s2]))),(5,FactU (Mo A (w.heap.size + 1)) (MayF (.agg #[.bool n3,.string s3,.bool n4,.string s4])))]) (by kernel_rfl) ?_ ?_ (by simp) (by simp) (by kernel_rfl)
 ·exact keeps_pick (by simp only [List.mem_cons,List.not_mem_nil,or_false]; rintro p (rfl | rfl) <;> exact FactU.keeps (MayF.keeps _))
 ·repeat (refine ⟨_,fun f w1 h1 => by (have d0 := ct h1 hs0 e0; have d1 := ct h1 hs0 e1; have d2 := ct h1 hs0 e2; have d3 := ct h1 hs0 e3; have d4 := ct h1 hs0 e4; have d5 := ct h1 hs0 e5; have d6 := ct h1 hs0 e6; have d7 := ct h1 hs0 e7; go_simp; rfl),?_⟩)
  simp only [Act.put,nrA,nrB,nrC,Nat.reduceAdd]
  refine ⟨fun f w1 A1 k1 hA hN hd K hK => by
   go_simp
   refine (H1.out w1).mono ?_
   rintro e w' ⟨u,rfl,hm,hb⟩
   exact hK _ _ hb (hm.mayF hb (rcv_un (HR.out.1.below (br.drew.trans k1)) hA)),?_⟩
  repeat (refine ⟨_,fun f w1 h1 => by (have d0 := ct h1 hs0 e0; have d1 := ct h1 hs0 e1; have d2 := ct h1 hs0 e2; have d3 := ct h1 hs0 e3; have d4 := ct h1 hs0 e4; have d5 := ct h1 hs0 e5; have d6 := ct h1 hs0 e6; have d7 := ct h1 hs0 e7; go_simp; rfl),?_⟩)
  simp only [Act.put,nrA,nrB,nrC,Nat.reduceAdd]
  refine ⟨fun f w1 A1 k1 hA hN hd K hK => by
   go_simp
   refine (H2.out w1).mono ?_
   rintro e w' ⟨u,rfl,hm,hb⟩
   exact hK _ _ hb (hm.mayF hb (rcv_un (HR.out.1.below (br.drew.trans k1)) hA)),?_⟩
  intro f w1 k1 hF
  have i2 : MayF (.agg #[.bool n1,.string s1,.bool n2,.string s2]) (f 2) w1 (Mo A (w.heap.size + 1)) := FactU.done (MayF.keeps _) hF.1.2
  have i5 : MayF (.agg #[.bool n3,.string s3,.bool n4,.string s4]) (f 5) w1 (Mo A (w.heap.size + 1)) := FactU.done (MayF.keeps _) hF.2
  clear hF
  simp only [Act.put,nrA,nrB,nrC]
  generalize f 2 = x2 at *
  generalize f 5 = x5 at *
  have hb1 : Below W.heap.size W w1 := br.drew.trans k1
  obtain ⟨_,c0,c1,f0,f1⟩ := HV.out.2.2.2 w1 hb1
  have HB := Lib.hid (HV.out.2.1.trans (hb1.mono HV.out.2.1.size))
  clear e0 e1 e2 e3 e4 e5 e6 e7 k1 hb1 H1 H2
  rcases i2 with ⟨hn1,rfl⟩ | ⟨q1,eq1,ok1,r1⟩
  ·have hrf : r = false := by
    cases h : r
    ·rfl
    ·exact absurd (gaussOk_iff.1 (HR.out.2.1 h)).1 hn1
   subst hrf
   have HG := Lib.hid (show ¬ GaussOk (.agg #[.bool n1,.string s1,.bool n2,.string s2,.bool n3,.string s3,.bool n4,.string s4]) from fun h => hn1 (gaussOk_iff.1 h).1)
   have j5 : ∃ b,RatO b x5 w1 (Mo A (w.heap.size + 1)) := by
    rcases i5 with ⟨_,rfl⟩ | ⟨q2,_,_,r2⟩
    ·exact ⟨0,.inl ⟨rfl,rfl⟩⟩
    ·exact ⟨q2,.inr r2⟩
   obtain ⟨b,j5⟩ := j5
   obtain ⟨p5,rfl⟩ := j5.shape
   have HJ := Lib.hid j5
   clear i5 j5 hn1
   go_wp2_with fail
   refine bodyPost_ret (v := .tuple #[.agg #[.pointer none,.pointer p5],.bool false]) (by simp [results,Tryz.results104,go_sem,c0,c1]) rfl ?_
   obtain ⟨u,hu,hb,hz⟩ := put_numO HB.out (.inl ⟨rfl,rfl⟩ : RatO 0 (.pointer none) w1 (Mo A (w.heap.size + 1))) HJ.out (by omega)
   cases hu
   exact ⟨_,rfl,hb,⟨⟨0,b⟩,hz,fun h => absurd h HG.out⟩⟩
  ·obtain ⟨m1,rfl⟩ := r1.shape
   rcases i5 with ⟨hn2,rfl⟩ | ⟨q2,eq2,ok2,r2⟩
   ·have hrf : r = false := by
     cases h : r
     ·rfl
     ·exact absurd (gaussOk_iff.1 (HR.out.2.1 h)).2 hn2
    subst hrf
    have HG := Lib.hid (show ¬ GaussOk (.agg #[.bool n1,.string s1,.bool n2,.string s2,.bool n3,.string s3,.bool n4,.string s4]) from fun h => hn2 (gaussOk_iff.1 h).2)
    have HJ := Lib.hid r1
    clear r1 hn2 eq1 ok1
    go_wp2_with fail
    refine bodyPost_ret (v := .tuple #[.agg #[.pointer (some ⟨m1,0,none⟩),.pointer none],.bool false]) (by simp [results,Tryz.results104,go_sem,c0,c1]) rfl ?_
    obtain ⟨u,hu,hb,hz⟩ := put_numO HB.out (.inr HJ.out) (.inl ⟨rfl,rfl⟩ : RatO 0 (.pointer none) w1 (Mo A (w.heap.size + 1))) (by omega)
    cases hu
    exact ⟨_,rfl,hb,⟨⟨q1,0⟩,hz,fun h => absurd h HG.out⟩⟩
   ·obtain ⟨m2,rfl⟩ := r2.shape
    have hrt : r = true := HR.out.2.2 (gaussOk_iff.2 ⟨ok1,ok2⟩)
    subst hrt
    have HJ := Lib.hid (And.intro r1 r2)
    have HG := Lib.hid (show .agg #[.bool n1,.string s1,.bool n2,.string s2,.bool n3,.string s3,.bool n4,.string s4] = encG q1 q2 by
     obtain ⟨rfl,rfl,rfl,rfl⟩ := encF_parts eq1
     obtain ⟨rfl,rfl,rfl,rfl⟩ := encF_parts eq2
     rfl)
    clear r1 r2 eq1 eq2 ok1 ok2
    go_wp2_with fail
    refine bodyPost_ret (v := .tuple #[.agg #[.pointer (some ⟨m1,0,none⟩),.pointer (some ⟨m2,0,none⟩)],.bool true]) (by simp [results,Tryz.results104,go_sem,c0,c1]) rfl ?_
    obtain ⟨u,hu,hb,hz⟩ := put_numO HB.out (.inr HJ.out.1) (.inr HJ.out.2) (by omega)
    cases hu
    exact ⟨_,rfl,hb,⟨⟨q1,q2⟩,hz,fun _ => HG.out⟩⟩
end Go.Proofs.YtepefgkihnjjaaaGreat
namespace Go.Proofs.YtepefgkihnjjaaaGreat
open Go.RowKit Tr
theorem beq_toList (a b : ByteArray) : (a.toList == b.toList) = (a == b) := (beq_toListBytes a b).symm
set_option maxRecDepth 100000 in
set_option maxHeartbeats 1600000 in
theorem run_eql_pt (w : World) (i n1 n2 n3 n4 j m1 m2 m3 m4 : Bool) (s1 s2 s3 s4 t1 t2 t3 t4 : ByteArray) (r : Bool) (hr : r = true ↔ Value.agg #[.bool i,.bool n1,.string s1,.bool n2,.string s2,.bool n3,.string s3,.bool n4,.string s4] = .agg #[.bool j,.bool m1,.string t1,.bool m2,.string t2,.bool m3,.string t3,.bool m4,.string t4]) :
  (binOp .eql 29 (.agg #[.bool i,.bool n1,.string s1,.bool n2,.string s2,.bool n3,.string s3,.bool n4,.string s4]) (.agg #[.bool j,.bool m1,.string t1,.bool m2,.string t2,.bool m3,.string t3,.bool m4,.string t4])).run Tryz.prog w = .ok (.bool r) w := by
 simp only [Value.agg.injEq,Array.mk.injEq,List.cons.injEq,Value.bool.injEq,Value.string.injEq,and_true] at hr
 go_simp
 simp only [toL_iff]
 cases r
 ·have hn : ¬ (i = j ∧ n1 = m1 ∧ s1 = t1 ∧ n2 = m2 ∧ s2 = t2 ∧ n3 = m3 ∧ s3 = t3 ∧ n4 = m4 ∧ s4 = t4) := fun h => by cases hr.2 h
  repeat' split
  all_goals first
   | rfl
   | (exfalso; apply hn; refine ⟨?_,?_,?_,?_,?_,?_,?_,?_,?_⟩ <;> assumption)
 ·obtain ⟨rfl,rfl,rfl,rfl,rfl,rfl,rfl,rfl,rfl⟩ := hr.1 rfl
  simp
set_option maxRecDepth 100000 in
set_option maxHeartbeats 1600000 in
theorem run_eql_g (w : World) (n1 n2 n3 n4 m1 m2 m3 m4 : Bool) (s1 s2 s3 s4 t1 t2 t3 t4 : ByteArray) (r : Bool) (hr : r = true ↔ Value.agg #[.bool n1,.string s1,.bool n2,.string s2,.bool n3,.string s3,.bool n4,.string s4] = .agg #[.bool m1,.string t1,.bool m2,.string t2,.bool m3,.string t3,.bool m4,.string t4]) :
  (binOp .eql 27 (.agg #[.bool n1,.string s1,.bool n2,.string s2,.bool n3,.string s3,.bool n4,.string s4]) (.agg #[.bool m1,.string t1,.bool m2,.string t2,.bool m3,.string t3,.bool m4,.string t4])).run Tryz.prog w = .ok (.bool r) w := by
 simp only [Value.agg.injEq,Array.mk.injEq,List.cons.injEq,Value.bool.injEq,Value.string.injEq,and_true] at hr
 go_simp
 simp only [toL_iff]
 cases r
 ·have hn : ¬ (n1 = m1 ∧ s1 = t1 ∧ n2 = m2 ∧ s2 = t2 ∧ n3 = m3 ∧ s3 = t3 ∧ n4 = m4 ∧ s4 = t4) := fun h => by cases hr.2 h
  repeat' split
  all_goals first
   | rfl
   | (exfalso; apply hn; refine ⟨?_,?_,?_,?_,?_,?_,?_,?_⟩ <;> assumption)
 ·obtain ⟨rfl,rfl,rfl,rfl,rfl,rfl,rfl,rfl⟩ := hr.1 rfl
  simp
end Go.Proofs.YtepefgkihnjjaaaGreat
namespace Go.Proofs.YtepefgkihnjjaaaGreat
open Go.RowKit Tr
theorem spbox (w : World) (a0 a1 a2 a3 a4 a5 a6 a7 a8 : Value) :
  ∃ W,Hid (W = (w.alloc (.cells #[a0,a1,a2,a3,a4,a5,a6,a7,a8] 29)).alloc (.cells #[.bool false,.pointer none,.pointer none] 68) ∧ Below w.heap.size w W ∧ W.heap.size = w.heap.size + 2 ∧ ∀ w1,Below W.heap.size W w1 → (w1.cell? ⟨w.heap.size,0,none⟩ = some (a0) ∧ w1.cell? ⟨w.heap.size,1,none⟩ = some (a1) ∧ w1.cell? ⟨w.heap.size,2,none⟩ = some (a2) ∧ w1.cell? ⟨w.heap.size,3,none⟩ = some (a3) ∧ w1.cell? ⟨w.heap.size,4,none⟩ = some (a4) ∧ w1.cell? ⟨w.heap.size,5,none⟩ = some (a5) ∧ w1.cell? ⟨w.heap.size,6,none⟩ = some (a6) ∧ w1.cell? ⟨w.heap.size,7,none⟩ = some (a7) ∧ w1.cell? ⟨w.heap.size,8,none⟩ = some (a8)) ∧
   (w1.cell? ⟨w.heap.size + 1,0,none⟩ = some (.bool false) ∧ w1.cell? ⟨w.heap.size + 1,1,none⟩ = some (.pointer none) ∧ w1.cell? ⟨w.heap.size + 1,2,none⟩ = some (.pointer none) ∧ w1.frozen? ⟨w.heap.size + 1,0,none⟩ = false ∧ w1.frozen? ⟨w.heap.size + 1,1,none⟩ = false ∧ w1.frozen? ⟨w.heap.size + 1,2,none⟩ = false)) := by
 obtain ⟨w1,hw1⟩ : ∃ w1,w1 = w.alloc (.cells #[a0,a1,a2,a3,a4,a5,a6,a7,a8] 29) := ⟨_,rfl⟩
 have hz1 : w1.heap.size = w.heap.size + 1 := by rw [hw1]; simp
 have hb1 : Below w.heap.size w w1 := by rw [hw1]; exact br.alloc (Nat.le_refl _) _
 obtain ⟨w2,hw2⟩ : ∃ w2,w2 = w1.alloc (.cells #[.bool false,.pointer none,.pointer none] 68) := ⟨_,rfl⟩
 have hz2 : w2.heap.size = w.heap.size + 2 := by rw [hw2]; simp [hz1]
 have hb2 : Below w1.heap.size w1 w2 := by rw [hw2]; exact br.alloc (Nat.le_refl _) _
 have t2 : Below w2.heap.size w2 w2 := Below.refl _ _
 have t1 : Below w1.heap.size w1 w2 := hb2.trans (t2.mono hb2.size)
 refine ⟨w2,Lib.hid ⟨by rw [hw2,hw1],hb1.trans (t1.mono hb1.size),hz2,fun w' h => ?_⟩⟩
 have e0 := (t1.trans (h.mono t1.size)).block w.heap.size (by rw [hw1]; simp)
 rw [hw1,heap_alloc_new] at e0
 have e1 := (t2.trans (h.mono t2.size)).block w1.heap.size (by rw [hw2]; simp)
 rw [hw2,heap_alloc_new] at e1
 rw [hz1] at e1
 refine ⟨?_,?_⟩ <;> simp [World.cell?,World.frozen?,e0,e1]
def pz : Pt → QC
 | none => ⟨0,0⟩
 | some z => z
def PlF (p : Pt) : Fact := fun v w A => ∃ u1 u2,v = .agg #[.bool p.isNone,u1,u2] ∧ NQ (pz p) (.agg #[u1,u2]) w A
theorem PlF.keeps (p : Pt) : (PlF p).Keeps := fun v w w' A A' hs hk ⟨u1,u2,e,h⟩ => ⟨u1,u2,e,NQ.keeps _ _ _ _ _ _ hs hk h⟩
def PtOk (v : Value) : Prop := ∃ p,v = encP p ∧ ShortP p
def SpF (v0 : Value) : Fact := fun u w A => ∃ p,PlF p u w A ∧ (PtOk v0 → v0 = encP p)
theorem SpF.keeps (v0 : Value) : (SpF v0).Keeps := fun u w w' A A' hs hk ⟨p,h,e⟩ => ⟨p,PlF.keeps p u w w' A A' hs hk h,e⟩
theorem ptOk_inf {n1 n2 n3 n4 : Bool} {s1 s2 s3 s4 : ByteArray} : PtOk (.agg #[.bool true,.bool n1,.string s1,.bool n2,.string s2,.bool n3,.string s3,.bool n4,.string s4]) ↔ Value.agg #[.bool true,.bool n1,.string s1,.bool n2,.string s2,.bool n3,.string s3,.bool n4,.string s4] = infP := by
 constructor
 ·rintro ⟨p,e,h⟩
  cases p with
  | none => exact e
  | some z => unfold encP encPt at e; simp at e
 ·intro h; exact ⟨none,h,trivial⟩
theorem ptOk_num {n1 n2 n3 n4 : Bool} {s1 s2 s3 s4 : ByteArray} : PtOk (.agg #[.bool false,.bool n1,.string s1,.bool n2,.string s2,.bool n3,.string s3,.bool n4,.string s4]) ↔ GaussOk (.agg #[.bool n1,.string s1,.bool n2,.string s2,.bool n3,.string s3,.bool n4,.string s4]) := by
 constructor
 ·rintro ⟨p,e,h⟩
  cases p with
  | none => unfold encP infP at e; simp at e
  | some z => exact ⟨z,by unfold encP encPt at e; unfold encG; simpa using e,h⟩
 ·rintro ⟨z,e,h⟩
  exact ⟨some z,by unfold encG at e; unfold encP encPt; simpa using e,h⟩
set_option maxRecDepth 100000 in
set_option maxHeartbeats 3200000 in
theorem Spot_inf (n1 n2 n3 n4 : Bool) (s1 s2 s3 s4 : ByteArray) (A : Nat → Prop) (w : World) (hA : Rcv A w) (r : Bool) (hr : r = true ↔ PtOk (.agg #[.bool true,.bool n1,.string s1,.bool n2,.string s2,.bool n3,.string s3,.bool n4,.string s4])) :
  Calls Tryz.prog 97 #[.agg #[.bool true,.bool n1,.string s1,.bool n2,.string s2,.bool n3,.string s3,.bool n4,.string s4]] w fun e w' => ∃ u,e = .returned (.tuple #[u,.bool r]) ∧ Below w.heap.size w w' ∧ SpF (.agg #[.bool true,.bool n1,.string s1,.bool n2,.string s2,.bool n3,.string s3,.bool n4,.string s4]) u w' A := by
 obtain ⟨W,HV⟩ := spbox w (.bool true) (.bool n1) (.string s1) (.bool n2) (.string s2) (.bool n3) (.string s3) (.bool n4) (.string s4)
 obtain ⟨⟨e0,e1,e2,e3,e4,e5,e6,e7,e8⟩,_⟩ := HV.out.2.2.2 W br
 go_enter Tryz.func97,Tryz.ntmps97
 go_wp2_with fail
 rw [← HV.out.1]
 go_wp2_with fail
 obtain ⟨_,c0,c1,c2,f0,f1,f2⟩ := HV.out.2.2.2 W br
 have he := fun w => run_eql_pt w true n1 n2 n3 n4 true false false false false s1 s2 s3 s4 ⟨#[]⟩ ⟨#[]⟩ ⟨#[]⟩ ⟨#[]⟩ r (hr.trans ptOk_inf)
 have HR := Lib.hid (And.intro hr hA)
 clear hr hA
 go_region
 all_goals (
  go_wp2
  refine bodyPost_ret (v := .tuple #[.agg #[.bool true,.pointer none,.pointer none],.bool r]) (by simp [results,Tryz.results97,go_sem,c0,c1,c2]) rfl ?_
  refine ⟨_,rfl,?_,none,⟨_,_,rfl,_,_,rfl,.inl ⟨rfl,rfl⟩,.inl ⟨rfl,rfl⟩⟩,fun h => ptOk_inf.1 h⟩
  exact (((HV.out.2.1.drew.setCell (p := ⟨w.heap.size + 1,0,none⟩) (Nat.le_succ _) _).setCell (p := ⟨w.heap.size + 1,1,none⟩) (Nat.le_succ _) _).setCell (p := ⟨w.heap.size + 1,2,none⟩) (Nat.le_succ _) _))
theorem noW_pl (b : Bool) (p q : Option Addr) (T : TypeId) : NoW (.cells #[.bool b,.pointer p,.pointer q] T (0,0)) := by
 intro cs T fr e i k x
 cases e
 rcases i with _ | _ | _ | i <;> simp
theorem rcv_more {w W : World} {A : Nat → Prop} {n : Nat} {z : Obj} (hA : Rcv A w) (hb : Below w.heap.size w W) (hn : W.heap[n]? = some z) (hz : NoW z) : Rcv (Mo A n) W :=
 fun b h => h.elim (fun h => (hA.below hb) b h) (fun h => by subst h; exact ⟨_,hn,hz⟩)
theorem nq_agg {z : QC} {v : Value} {w : World} {A : Nat → Prop} (h : NQ z v w A) : ∃ p1 p2,v = .agg #[.pointer p1,.pointer p2] := by
 obtain ⟨u1,u2,rfl,h1,h2⟩ := h
 obtain ⟨p1,rfl⟩ := h1.shape
 obtain ⟨p2,rfl⟩ := h2.shape
 exact ⟨p1,p2,rfl⟩
theorem put_pl {p : Pt} {i : Bool} {p1 p2 : Option Addr} {w w1 : World} {A : Nat → Prop} {n : Nat} (hi : i = p.isNone) (hb : Below w.heap.size w w1) (h : NQ (pz p) (.agg #[.pointer p1,.pointer p2]) w1 (Mo A n)) (hn : w.heap.size ≤ n) :
  Below w.heap.size w (((w1.setCell ⟨n,0,none⟩ (.bool i)).setCell ⟨n,1,none⟩ (.pointer p1)).setCell ⟨n,2,none⟩ (.pointer p2)) ∧ PlF p (.agg #[.bool i,.pointer p1,.pointer p2]) (((w1.setCell ⟨n,0,none⟩ (.bool i)).setCell ⟨n,1,none⟩ (.pointer p1)).setCell ⟨n,2,none⟩ (.pointer p2)) A := by
 refine ⟨((hb.setCell (p := ⟨n,0,none⟩) hn _).setCell (p := ⟨n,1,none⟩) hn _).setCell (p := ⟨n,2,none⟩) hn _,_,_,by rw [hi],?_⟩
 exact more_less _ (NQ.keeps _) (keep_set _ (NQ.keeps _) (keep_set _ (NQ.keeps _) (keep_set _ (NQ.keeps _) h)))
set_option maxRecDepth 100000 in
set_option maxHeartbeats 3200000 in
theorem Spot_num (n1 n2 n3 n4 : Bool) (s1 s2 s3 s4 : ByteArray) (l1 : s1.size < 274877906944) (l2 : s2.size < 274877906944) (l3 : s3.size < 274877906944) (l4 : s4.size < 274877906944) (A : Nat → Prop) (w : World) (hA : Rcv A w) (r : Bool) (hr : r = true ↔ PtOk (.agg #[.bool false,.bool n1,.string s1,.bool n2,.string s2,.bool n3,.string s3,.bool n4,.string s4])) :
  Calls Tryz.prog 97 #[.agg #[.bool false,.bool n1,.string s1,.bool n2,.string s2,.bool n3,.string s3,.bool n4,.string s4]] w fun e w' => ∃ u,e = .returned (.tuple #[u,.bool r]) ∧ Below w.heap.size w w' ∧ SpF (.agg #[.bool false,.bool n1,.string s1,.bool n2,.string s2,.bool n3,.string s3,.bool n4,.string s4]) u w' A := by
 obtain ⟨W,HV⟩ := spbox w (.bool false) (.bool n1) (.string s1) (.bool n2) (.string s2) (.bool n3) (.string s3) (.bool n4) (.string s4)
 obtain ⟨⟨e0,e1,e2,e3,e4,e5,e6,e7,e8⟩,_⟩ := HV.out.2.2.2 W br
 have hR : Rcv (Mo A (w.heap.size + 1)) W := rcv_more hA HV.out.2.1 (by
  rw [HV.out.1]
  have := heap_alloc_new (w.alloc (.cells #[.bool false,.bool n1,.string s1,.bool n2,.string s2,.bool n3,.string s3,.bool n4,.string s4] 29)) (.cells #[.bool false,.pointer none,.pointer none] 68 (0,0))
  simpa using this) (noW_pl _ _ _ _)
 have H1 := Lib.hid (EOf_any n1 n2 n3 n4 s1 s2 s3 s4 l1 l2 l3 l4 (Mo A (w.heap.size + 1)) W hR r (hr.trans ptOk_num))
 clear hR hA
 go_enter Tryz.func97,Tryz.ntmps97
 go_wp2_with fail
 rw [← HV.out.1]
 go_wp2_with fail
 refine H1.out.mono ?_
 rintro e w1 ⟨u,rfl,hb1,z,hz,hv⟩
 obtain ⟨p1,p2,rfl⟩ := nq_agg hz
 have hbw := HV.out.2.1.trans (hb1.mono HV.out.2.1.size)
 obtain ⟨_,c0,c1,c2,f0,f1,f2⟩ := HV.out.2.2.2 w1 hb1
 have hn2 : w.heap.size + 1 < w1.heap.size := by have h1 := hb1.size; have h2 := HV.out.2.2.1; omega
 obtain ⟨hpb,hpl⟩ := put_pl (p := some z) (i := false) rfl hbw hz (n := w.heap.size + 1) (by omega)
 have HP := Lib.hid (And.intro hpb (And.intro hpl (fun h => hv (ptOk_num.1 h))))
 clear hz hv hbw hb1 hpb hpl H1 hr l1 l2 l3 l4 e0 e1 e2 e3 e4 e5 e6 e7 e8
 go_wp2_with fail
 refine bodyPost_ret (v := .tuple #[.agg #[.bool false,.pointer p1,.pointer p2],.bool r]) (by simp [results,Tryz.results97,go_sem,c0,c1,c2,hn2,cell_alloc_lt]) rfl ?_
 refine ⟨_,rfl,HP.out.1.alloc HP.out.1.size _,some z,Fact.Keeps.below (PlF.keeps _) (br.alloc (Nat.le_refl _) _) HP.out.2.1,fun h => ?_⟩
 have := HP.out.2.2 h
 unfold encG at this
 unfold encP encPt
 simpa using this
theorem Spot_any (i n1 n2 n3 n4 : Bool) (s1 s2 s3 s4 : ByteArray) (l1 : s1.size < 274877906944) (l2 : s2.size < 274877906944) (l3 : s3.size < 274877906944) (l4 : s4.size < 274877906944) (A : Nat → Prop) (w : World) (hA : Rcv A w) (r : Bool) (hr : r = true ↔ PtOk (.agg #[.bool i,.bool n1,.string s1,.bool n2,.string s2,.bool n3,.string s3,.bool n4,.string s4])) :
  Calls Tryz.prog 97 #[.agg #[.bool i,.bool n1,.string s1,.bool n2,.string s2,.bool n3,.string s3,.bool n4,.string s4]] w fun e w' => ∃ u,e = .returned (.tuple #[u,.bool r]) ∧ Below w.heap.size w w' ∧ SpF (.agg #[.bool i,.bool n1,.string s1,.bool n2,.string s2,.bool n3,.string s3,.bool n4,.string s4]) u w' A := by
 cases i
 ·exact Spot_num n1 n2 n3 n4 s1 s2 s3 s4 l1 l2 l3 l4 A w hA r hr
 ·exact Spot_inf n1 n2 n3 n4 s1 s2 s3 s4 A w hA r hr
theorem plbox (w : World) (i : Bool) (p1 p2 : Option Addr) :
  ∃ W,Hid (W = ((w.alloc (.cells #[.bool i,.pointer p1,.pointer p2] 68)).alloc (.cells #[.pointer none,.pointer none] 66)).alloc (.cells #[.pointer none,.pointer none] 66) ∧ Below w.heap.size w W ∧ W.heap.size = w.heap.size + 3 ∧ ∀ w1,Below W.heap.size W w1 → (w1.cell? ⟨w.heap.size,0,none⟩ = some (.bool i) ∧ w1.cell? ⟨w.heap.size,1,none⟩ = some (.pointer p1) ∧ w1.cell? ⟨w.heap.size,2,none⟩ = some (.pointer p2)) ∧
   (w1.cell? ⟨w.heap.size + 1,0,none⟩ = some (.pointer none) ∧ w1.cell? ⟨w.heap.size + 1,1,none⟩ = some (.pointer none) ∧ w1.frozen? ⟨w.heap.size + 1,0,none⟩ = false ∧ w1.frozen? ⟨w.heap.size + 1,1,none⟩ = false ∧ w1.heap[w.heap.size + 1]? = some (.cells #[.pointer none,.pointer none] 66 (0,0))) ∧
   (w1.cell? ⟨w.heap.size + 2,0,none⟩ = some (.pointer none) ∧ w1.cell? ⟨w.heap.size + 2,1,none⟩ = some (.pointer none) ∧ w1.frozen? ⟨w.heap.size + 2,0,none⟩ = false ∧ w1.frozen? ⟨w.heap.size + 2,1,none⟩ = false ∧ w1.heap[w.heap.size + 2]? = some (.cells #[.pointer none,.pointer none] 66 (0,0)))) := by
 obtain ⟨w1,hw1⟩ : ∃ w1,w1 = w.alloc (.cells #[.bool i,.pointer p1,.pointer p2] 68) := ⟨_,rfl⟩
 have hz1 : w1.heap.size = w.heap.size + 1 := by rw [hw1]; simp
 have hb1 : Below w.heap.size w w1 := by rw [hw1]; exact br.alloc (Nat.le_refl _) _
 obtain ⟨w2,hw2⟩ : ∃ w2,w2 = w1.alloc (.cells #[.pointer none,.pointer none] 66) := ⟨_,rfl⟩
 have hz2 : w2.heap.size = w.heap.size + 2 := by rw [hw2]; simp [hz1]
 have hb2 : Below w1.heap.size w1 w2 := by rw [hw2]; exact br.alloc (Nat.le_refl _) _
 obtain ⟨w3,hw3⟩ : ∃ w3,w3 = w2.alloc (.cells #[.pointer none,.pointer none] 66) := ⟨_,rfl⟩
 have hz3 : w3.heap.size = w.heap.size + 3 := by rw [hw3]; simp [hz2]
 have hb3 : Below w2.heap.size w2 w3 := by rw [hw3]; exact br.alloc (Nat.le_refl _) _
 have t3 : Below w3.heap.size w3 w3 := Below.refl _ _
 have t2 : Below w2.heap.size w2 w3 := hb3.trans (t3.mono hb3.size)
 have t1 : Below w1.heap.size w1 w3 := hb2.trans (t2.mono hb2.size)
 refine ⟨w3,Lib.hid ⟨by rw [hw3,hw2,hw1],hb1.trans (t1.mono hb1.size),hz3,fun w' h => ?_⟩⟩
 have e0 := (t1.trans (h.mono t1.size)).block w.heap.size (by rw [hw1]; simp)
 rw [hw1,heap_alloc_new] at e0
 have e1 := (t2.trans (h.mono t2.size)).block w1.heap.size (by rw [hw2]; simp)
 rw [hw2,heap_alloc_new] at e1
 rw [hz1] at e1
 have e2 := (t3.trans (h.mono t3.size)).block w2.heap.size (by rw [hw3]; simp)
 rw [hw3,heap_alloc_new] at e2
 rw [hz2] at e2
 refine ⟨?_,?_,?_⟩ <;> simp [World.cell?,World.frozen?,e0,e1,e2]
theorem keep_at {R : Fact} (hR : R.Keeps) {n o : Nat} {A : Nat → Prop} {x y : Value} {w : World} (hn : A n) (h : R x w A) : R x (w.setCell ⟨n,o,none⟩ y) A :=
 hR _ _ _ _ _ (by simp [World.setCell]) (fun b _ hb => ⟨Below.heap_setCell _ _ _ _ (fun e => hb (e ▸ hn)),hb⟩) h
theorem less_of {R : Fact} (h : R.Keeps) {v : Value} {w : World} {A A' : Nat → Prop} (hR : R v w A) (hA : ∀ b,A' b → A b) : R v w A' := h v w w A A' (Nat.le_refl _) (fun b _ hb => ⟨rfl,fun h => hb (hA b h)⟩) hR
theorem pl_agg {p : Pt} {v : Value} {w : World} {A : Nat → Prop} (h : PlF p v w A) : ∃ p1 p2,v = .agg #[.bool p.isNone,.pointer p1,.pointer p2] ∧ NQ (pz p) (.agg #[.pointer p1,.pointer p2]) w A := by
 obtain ⟨u1,u2,rfl,h⟩ := h
 obtain ⟨p1,p2,e⟩ := nq_agg h
 cases e
 exact ⟨p1,p2,rfl,h⟩
theorem put_nn {x y : QC} {p1 p2 p3 p4 : Option Addr} {w w1 : World} {A : Nat → Prop} {n m : Nat} (hb : Below w.heap.size w w1) (hx : NQ x (.agg #[.pointer p1,.pointer p2]) w1 (Mo (Mo A n) m)) (hy : NQ y (.agg #[.pointer p3,.pointer p4]) w1 (Mo (Mo A n) m)) (hn : w.heap.size ≤ n) (hm : w.heap.size ≤ m) :
  Below w.heap.size w ((((w1.setCell ⟨n,0,none⟩ (.pointer p1)).setCell ⟨n,1,none⟩ (.pointer p2)).setCell ⟨m,0,none⟩ (.pointer p3)).setCell ⟨m,1,none⟩ (.pointer p4)) ∧ NQ x (.agg #[.pointer p1,.pointer p2]) ((((w1.setCell ⟨n,0,none⟩ (.pointer p1)).setCell ⟨n,1,none⟩ (.pointer p2)).setCell ⟨m,0,none⟩ (.pointer p3)).setCell ⟨m,1,none⟩ (.pointer p4)) A ∧ NQ y (.agg #[.pointer p3,.pointer p4]) ((((w1.setCell ⟨n,0,none⟩ (.pointer p1)).setCell ⟨n,1,none⟩ (.pointer p2)).setCell ⟨m,0,none⟩ (.pointer p3)).setCell ⟨m,1,none⟩ (.pointer p4)) A := by
 have key : ∀ {z : QC} {v : Value},NQ z v w1 (Mo (Mo A n) m) → NQ z v ((((w1.setCell ⟨n,0,none⟩ (.pointer p1)).setCell ⟨n,1,none⟩ (.pointer p2)).setCell ⟨m,0,none⟩ (.pointer p3)).setCell ⟨m,1,none⟩ (.pointer p4)) A := fun {z v} h =>
  less_of (NQ.keeps z) (keep_at (NQ.keeps z) (.inr rfl) (keep_at (NQ.keeps z) (.inr rfl) (keep_at (NQ.keeps z) (.inl (.inr rfl)) (keep_at (NQ.keeps z) (.inl (.inr rfl)) h)))) (fun b h => .inl (.inl h))
 exact ⟨(((hb.setCell (p := ⟨n,0,none⟩) hn _).setCell (p := ⟨n,1,none⟩) hn _).setCell (p := ⟨m,0,none⟩) hm _).setCell (p := ⟨m,1,none⟩) hm _,key hx,key hy⟩
set_option maxRecDepth 100000 in
set_option maxHeartbeats 3200000 in
theorem By_any (p : Pt) (v : Value) (A : Nat → Prop) (w : World) (hA : Rcv A w) (hv : PlF p v w A) :
  Calls Tryz.prog 98 #[v] w fun e w' => ∃ u1 u2,e = .returned (.tuple #[u1,u2]) ∧ Below w.heap.size w w' ∧ NQ (ptX p) u1 w' A ∧ NQ (ptY p) u2 w' A := by
 obtain ⟨p1,p2,rfl,hz⟩ := pl_agg hv
 clear hv
 obtain ⟨i,hi⟩ : ∃ i,i = p.isNone := ⟨_,rfl⟩
 rw [← hi]
 obtain ⟨W,HV⟩ := plbox w i p1 p2
 obtain ⟨⟨e0,e1,e2⟩,⟨_,_,_,_,g1⟩,_,_,_,_,g2⟩ := HV.out.2.2.2 W br
 have hR : Rcv (Mo (Mo A (w.heap.size + 1)) (w.heap.size + 2)) W := rcv_more (rcv_more hA HV.out.2.1 g1 (noW_num _ _ ⟨_,rfl⟩ ⟨_,rfl⟩ _)) br g2 (noW_num _ _ ⟨_,rfl⟩ ⟨_,rfl⟩ _)
 have hz1 : NQ (pz p) (.agg #[.pointer p1,.pointer p2]) W (Mo (Mo A (w.heap.size + 1)) (w.heap.size + 2)) :=
  NQ.keeps _ _ _ _ _ _ HV.out.2.1.size (fun b hb hna => ⟨HV.out.2.1.block b hb,fun h => h.elim (fun h => h.elim hna (fun e => by omega)) (fun e => by omega)⟩) hz
 have hs0 : w.heap.size < W.heap.size := by have := HV.out.2.2.1; omega
 have HR := Lib.hid (And.intro hR hz1)
 clear hA hR hz hz1 g1 g2
 cases p with
 | none =>
  obtain rfl : i = true := hi
  have H1 := Lib.hid (EInt_any 1 0 (by decide) (by decide) (by decide) (by decide) (Mo (Mo A (w.heap.size + 1)) (w.heap.size + 2)) W HR.out.1)
  go_enter Tryz.func98,Tryz.ntmps98
  go_wp2_with fail
  try simp only [Nat.add_assoc,Nat.reduceAdd]
  rw [← HV.out.1]
  go_wp2_with fail
  refine H1.out.mono ?_
  rintro e w1 ⟨u1,rfl,hb1,i1⟩
  have H2 := Lib.hid (EInt_any 0 0 (by decide) (by decide) (by decide) (by decide) (Mo (Mo A (w.heap.size + 1)) (w.heap.size + 2)) w1 (HR.out.1.below hb1))
  have HI := Lib.hid (And.intro i1 hb1)
  clear i1 hb1
  go_wp2_with fail
  refine H2.out.mono ?_
  rintro e w2 ⟨u2,rfl,hb2,i2⟩
  have hbw := HI.out.2.trans (hb2.mono HI.out.2.size)
  have i1 : NQ (ptX none) u1 w2 (Mo (Mo A (w.heap.size + 1)) (w.heap.size + 2)) := Fact.Keeps.below (NumO.keeps _ _) hb2 HI.out.1
  have i2 : NQ (ptY none) u2 w2 (Mo (Mo A (w.heap.size + 1)) (w.heap.size + 2)) := i2
  obtain ⟨v1,v2,rfl⟩ := nq_agg i1
  obtain ⟨v3,v4,rfl⟩ := nq_agg i2
  obtain ⟨_,⟨c0,c1,f0,f1,_⟩,c2,c3,f2,f3,_⟩ := HV.out.2.2.2 w2 hbw
  have HE := Lib.hid (put_nn (HV.out.2.1.trans (hbw.mono HV.out.2.1.size)) i1 i2 (show w.heap.size ≤ w.heap.size + 1 by omega) (show w.heap.size ≤ w.heap.size + 2 by omega))
  clear i1 i2 hb2 hbw H1 H2 e0 e1 e2
  go_wp2_with fail
  refine bodyPost_ret (v := .tuple #[.agg #[.pointer v1,.pointer v2],.agg #[.pointer v3,.pointer v4]]) (by simp [results,Tryz.results98,go_sem,c0,c1,c2,c3]) rfl ?_
  exact ⟨_,_,rfl,HE.out⟩
 | some z =>
  obtain rfl : i = false := hi
  go_enter Tryz.func98,Tryz.ntmps98
  go_wp2_with fail
  try simp only [Nat.add_assoc,Nat.reduceAdd]
  rw [← HV.out.1]
  go_wp2_with fail
  refine wp_region_inv [(.lit,[]),(.lit,[]),(.val,[])]
   (pickF [(2,FactU (Mo (Mo A (w.heap.size + 1)) (w.heap.size + 2)) (NQ (ptY (some z))))]) (by kernel_rfl) ?_ ?_ (by simp) (by simp) (by kernel_rfl)
  ·exact keeps_pick (by simp only [List.mem_cons,List.not_mem_nil,or_false]; rintro p rfl; exact FactU.keeps (NQ.keeps _))
  ·repeat (refine ⟨_,fun f w1 h1 => by (have d0 := ct h1 hs0 e0; have d1 := ct h1 hs0 e1; have d2 := ct h1 hs0 e2; go_simp; rfl),?_⟩)
   simp only [Act.put,nrA,nrB,nrC,Nat.reduceAdd]
   refine ⟨fun f w1 A1 k1 hA hN hd K hK => by
    go_simp
    refine (EInt_any 1 0 (by decide) (by decide) (by decide) (by decide) (Un (Mo (Mo A (w.heap.size + 1)) (w.heap.size + 2)) A1) w1 (rcv_un (HR.out.1.below (br.drew.trans k1)) hA)).mono ?_
    rintro e w' ⟨v,rfl,hb,hr⟩
    exact hK _ _ hb hr,?_⟩
   intro f w1 k1 hF
   have i2 : NQ (ptY (some z)) (f 2) w1 (Mo (Mo A (w.heap.size + 1)) (w.heap.size + 2)) := FactU.done (NQ.keeps _) hF.2
   clear hF
   simp only [Act.put,nrA,nrB,nrC]
   generalize f 2 = x2 at *
   obtain ⟨v3,v4,rfl⟩ := nq_agg i2
   have hbw : Below W.heap.size W w1 := br.drew.trans k1
   obtain ⟨_,⟨c0,c1,f0,f1,_⟩,c2,c3,f2,f3,_⟩ := HV.out.2.2.2 w1 hbw
   have i1 : NQ (ptX (some z)) (.agg #[.pointer p1,.pointer p2]) w1 (Mo (Mo A (w.heap.size + 1)) (w.heap.size + 2)) := Fact.Keeps.below (NQ.keeps _) hbw HR.out.2
   have HE := Lib.hid (put_nn (HV.out.2.1.trans (hbw.mono HV.out.2.1.size)) i1 i2 (show w.heap.size ≤ w.heap.size + 1 by omega) (show w.heap.size ≤ w.heap.size + 2 by omega))
   clear i1 i2 hbw k1 e0 e1 e2
   go_wp2_with fail
   refine bodyPost_ret (v := .tuple #[.agg #[.pointer p1,.pointer p2],.agg #[.pointer v3,.pointer v4]]) (by simp [results,Tryz.results98,go_sem,c0,c1,c2,c3]) rfl ?_
   exact ⟨_,_,rfl,HE.out⟩
end Go.Proofs.YtepefgkihnjjaaaGreat
