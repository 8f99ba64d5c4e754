/- Laws for the walk. -/
import Derived.Test.YteljkhfbgliokaaGreatZzz
import Derived.Test.YteljkhfbgliokaaGreatZbh
import Derived.Test.YteljkhfbgliokaaGreatZbj
set_option linter.unusedVariables false
namespace Go.Proofs.YteljkhfbgliokaaGreat
open Go.RowKit Tr
open Classical
set_option maxHeartbeats 4000000 in
theorem llaw (v0 v1 v2 v3 : RawP) (v4 v5 v6 : RawG) (o1 o2 o3 o4 o5 : RawP) (c1 c2 c3 : Int) (r1 : 0 ≤ c1 ∧ c1 ≤ 1000) (r2 : 0 ≤ c2 ∧ c2 ≤ 1000) (r3 : 0 ≤ c3 ∧ c3 ≤ 1000) (hw : ¬ WideC v0.g v1.g v2.g v3.g v4 v5 v6)
  (A1 : SpecC Tryz.prog true 6 [.row (v0.cells ++ v1.cells ++ v2.cells ++ v3.cells ++ v4.cells ++ v5.cells ++ v6.cells)] (.tup [.row (o1.cells),.c (gx (.int .i64 c1))]))
  (A2 : SpecC Tryz.prog true 8 [.row (v0.cells ++ v1.cells ++ v2.cells ++ v3.cells ++ v4.cells ++ v5.cells ++ v6.cells),.c (gx (.int .i64 1))] (.tup [.row (o1.cells ++ zPG ++ zPG),.c (gx (.int .i64 c1))]))
  (A3 : SpecC Tryz.prog true 7 [.row (v0.cells ++ v1.cells ++ v2.cells ++ v3.cells ++ v4.cells ++ v5.cells ++ v6.cells)] (.tup [.row (o2.cells ++ o3.cells ++ o4.cells),.c (gx (.int .i64 c2))]))
  (A4 : SpecC Tryz.prog true 8 [.row (v0.cells ++ v1.cells ++ v2.cells ++ v3.cells ++ v4.cells ++ v5.cells ++ v6.cells),.c (gx (.int .i64 3))] (.tup [.row (o2.cells ++ o3.cells ++ o4.cells),.c (gx (.int .i64 c2))]))
  (A5 : SpecC Tryz.prog true 9 [.row v0.cells,.row v1.cells,.row v2.cells,.row v4.cells] (.tup [.row (o5.cells),.c (gx (.int .i64 c3))]))
  (A6 : SpecC Tryz.prog true 10 [.row v0.cells,.row v1.cells,.row v2.cells,.row v4.cells] (.tup [.row (o5.cells),.c (gx (.int .i64 c3))])) : SpecC Tryz.prog true 3 [.row (v0.cells ++ v1.cells ++ v2.cells ++ v3.cells ++ v4.cells ++ v5.cells ++ v6.cells)] (.r (.c (gl (.bool true)))) :=
  ev_sp (L := [v0.cells,v1.cells,v2.cells,v3.cells,v4.cells,v5.cells,v6.cells,o1.cells,[gx (.int .i64 c1)],o2.cells,o3.cells,o4.cells,[gx (.int .i64 c2)],o1.cells,[gx (.int .i64 c1)],o2.cells,o3.cells,o4.cells,[gx (.int .i64 c2)],o5.cells,[gx (.int .i64 c3)],o5.cells,[gx (.int .i64 c3)]].flatten) tys_ok mixed
     [gsm ((lwide v0.g v1.g v2.g v3.g v4 v5 v6).f hw) [20] [⟨flA [syms 1 8,syms 10 8,syms 19 8,syms 28 32],27⟩] [.c (.sl 0 0 7 7)] (.r (.c (.lit (.bool false)))),
      gs (A1) [.row (syms 0 60)] (.tup [.row (syms 60 9),.c (.sym 69)]),
      gs (A3) [.row (syms 0 60)] (.tup [.row (syms 70 27),.c (.sym 97)]),
      gs (A2) [.row (syms 0 60),.c (.lit (.int .i64 1))] (.tup [.row (flA [syms 98 9,zPA,zPA]),.c (.sym 107)]),
      gs (A4) [.row (syms 0 60),.c (.lit (.int .i64 3))] (.tup [.row (syms 108 27),.c (.sym 135)]),
      gs (A5) [.row (syms 0 9),.row (syms 9 9),.row (syms 18 9),.row (syms 36 8)] (.tup [.row (syms 136 9),.c (.sym 145)]),
      gs (A6) [.row (syms 0 9),.row (syms 9 9),.row (syms 18 9),.row (syms 36 8)] (.tup [.row (syms 146 9),.c (.sym 155)]),
      gs (lknown) [] (.r (.c (.lit (.bool true))))]
     [bP (.row (syms 60 9)) (.row (syms 98 9)) o1 o1 true (tI rfl),bI .eql 3 (.sym 69) (.sym 107) c1 c1 true (by simp [cmpB]),bP3 (.row (syms 70 27)) (.row (syms 108 27)) o2 o3 o4,bI .eql 3 (.sym 97) (.sym 135) c2 c2 true (by simp [cmpB]),bP (.row (syms 136 9)) (.row (syms 146 9)) o5 o5 true (tI rfl),bI .eql 3 (.sym 145) (.sym 155) c3 c3 true (by simp [cmpB])] [] Tryz.func3 (enters_of Tryz.func3 (by kernel_rfl)) 2000 [.row (syms 0 60)] (.r (.c (.lit (.bool true))))
set_option maxHeartbeats 4000000 in
theorem llaw_wide (v0 v1 v2 v3 : RawP) (v4 v5 v6 : RawG) (hw : WideC v0.g v1.g v2.g v3.g v4 v5 v6) : SpecC Tryz.prog true 3 [.row (v0.cells ++ v1.cells ++ v2.cells ++ v3.cells ++ v4.cells ++ v5.cells ++ v6.cells)] (.r (.c (gl (.bool true)))) :=
  ev_sp (L := [v0.cells,v1.cells,v2.cells,v3.cells,v4.cells,v5.cells,v6.cells].flatten) tys_ok mixed
     [gsm ((lwide v0.g v1.g v2.g v3.g v4 v5 v6).t hw) [20] [⟨flA [syms 1 8,syms 10 8,syms 19 8,syms 28 32],27⟩] [.c (.sl 0 0 7 7)] (.r (.c (.lit (.bool true)))),
      gs (lknown) [] (.r (.c (.lit (.bool true))))]
     [] [] Tryz.func3 (enters_of Tryz.func3 (by kernel_rfl)) 2000 [.row (syms 0 60)] (.r (.c (.lit (.bool true))))
end Go.Proofs.YteljkhfbgliokaaGreat
namespace Go.Proofs.YteljkhfbgliokaaGreat
open Go.RowKit Tr
open Classical
theorem out_rng (x y : QC) : 0 ≤ outPC x y ∧ outPC x y ≤ 1000 := by
 rcases outPC_two x y with h | h <;> rw [h] <;> decide
def zP1 : RawP := ⟨false,zeroG⟩
theorem same_corner (v0 v1 v2 : RawP) (v3 : RawG) (s0 : v0.Sz) (s1 : v1.Sz) (s2 : v2.Sz) (s3 : v3.Sz) :
  ∃ (o : RawP) (c : Int),(0 ≤ c ∧ c ≤ 1000) ∧ SpecC Tryz.prog true 9 [.row v0.cells,.row v1.cells,.row v2.cells,.row v3.cells] (.tup [.row o.cells,.c (gx (.int .i64 c))]) ∧
   SpecC Tryz.prog true 10 [.row v0.cells,.row v1.cells,.row v2.cells,.row v3.cells] (.tup [.row o.cells,.c (gx (.int .i64 c))]) := by
 by_cases hg : POk v0.val ∧ POk v1.val ∧ POk v2.val ∧ GOk v3.val ∧ ¬ v3 = rawQ ⟨0,0⟩ ∧ ¬ v3 = rawQ ⟨1,0⟩
 ·obtain ⟨h0,h1,h2,h3,h4,h5⟩ := hg
  obtain ⟨p,rfl,hp⟩ := pOk_raw h0
  obtain ⟨q,rfl,hq⟩ := pOk_raw h1
  obtain ⟨s,rfl,hs⟩ := pOk_raw h2
  obtain ⟨z,rfl,hz⟩ := gOk_raw h3
  have A := nCorner p q s z hp hq hs hz
  have B := rCorner p q s z hp hq hs hz
  have hn : ¬ (z = (⟨0,0⟩ : QC) ∨ z = (⟨1,0⟩ : QC)) := fun h => h.elim (fun h => h4 (by rw [h])) (fun h => h5 (by rw [h]))
  by_cases hk : kBad (ptX p) (ptY p) (ptX q) (ptY q) (ptX s) (ptY s)
  ·exact ⟨zP1,370,by decide,(A.f hn).t hk,(B.f hn).t hk⟩
  ·exact ⟨_,_,out_rng _ _,(A.f hn).f hk,(B.f hn).f hk⟩
 ·exact ⟨zP1,2,by decide,nCorner_bad v0 v1 v2 v3 s0 s1 s2 s3 hg,rCorner_bad v0 v1 v2 v3 s0 s1 s2 s3 hg⟩
def Z27 (c : Int) : FV := .tup [.row (zPG ++ zPG ++ zPG),.c (gx (.int .i64 c))]
theorem trees (K K5 K6 : Prop) [Decidable K] [Decidable K5] [Decidable K6] (c1 c2 c3 : Int) (h1 : c1 = 0 ∨ c1 = 4) (h2 : c2 = 0 ∨ c2 = 4) (h3 : c3 = 0 ∨ c3 = 4) (G : FV) :
  (if K then Z27 370 else if c1 = 0 then (if K5 then Z27 370 else if c2 = 0 then (if K6 then Z27 370 else if c3 = 0 then G else Z27 c3) else (if K6 then Z27 370 else if c3 = 0 then Z27 c2 else Z27 c3))
   else (if K5 then Z27 370 else if c2 = 0 then (if K6 then Z27 370 else if c3 = 0 then Z27 c1 else Z27 c3) else (if K6 then Z27 370 else if c3 = 0 then Z27 c2 else Z27 c3))) =
  (if K ∨ K5 ∨ K6 then Z27 370 else if c1 = 0 then if c2 = 0 then if c3 = 0 then G else Z27 c3 else Z27 c2 else Z27 c1) := by
 rcases h1 with rfl | rfl <;> rcases h2 with rfl | rfl <;> rcases h3 with rfl | rfl <;> by_cases a : K <;> by_cases b : K5 <;> by_cases c : K6 <;> simp [a,b,c]
section
variable (v0 v1 v2 v3 : RawP) (v4 v5 v6 : RawG)
def CellsC : List GF := v0.cells ++ v1.cells ++ v2.cells ++ v3.cells ++ v4.cells ++ v5.cells ++ v6.cells
def GoodC : Prop := POk v0.val ∧ POk v1.val ∧ POk v2.val ∧ POk v3.val ∧ GOk v4.val ∧ ¬ v4 = rawQ ⟨0,0⟩ ∧ GOk v5.val ∧ ¬ v5 = rawQ ⟨0,0⟩ ∧ GOk v6.val ∧ ¬ v6 = rawQ ⟨0,0⟩ ∧ ¬ v4 = v5 ∧ ¬ v5 = v6 ∧ ¬ v6 = v4
end
theorem good_parts {v0 v1 v2 v3 : RawP} {v4 v5 v6 : RawG} (h : GoodC v0 v1 v2 v3 v4 v5 v6) : ∃ p q r s a b c,v0 = rawPt p ∧ v1 = rawPt q ∧ v2 = rawPt r ∧ v3 = rawPt s ∧ v4 = rawQ a ∧ v5 = rawQ b ∧ v6 = rawQ c ∧ ShortP p ∧ ShortP q ∧ ShortP r ∧ ShortP s ∧ ShortZ a ∧ ShortZ b ∧ ShortZ c ∧
  ¬ (a = (⟨0,0⟩ : QC) ∨ b = (⟨0,0⟩ : QC) ∨ c = (⟨0,0⟩ : QC) ∨ a = b ∨ b = c ∨ c = a) := by
 obtain ⟨h0,h1,h2,h3,h4,n4,h5,n5,h6,n6,e1,e2,e3⟩ := h
 obtain ⟨p,rfl,hp⟩ := pOk_raw h0
 obtain ⟨q,rfl,hq⟩ := pOk_raw h1
 obtain ⟨r,rfl,hr⟩ := pOk_raw h2
 obtain ⟨s,rfl,hs⟩ := pOk_raw h3
 obtain ⟨a,rfl,ha⟩ := gOk_raw h4
 obtain ⟨b,rfl,hb⟩ := gOk_raw h5
 obtain ⟨c,rfl,hc⟩ := gOk_raw h6
 refine ⟨p,q,r,s,a,b,c,rfl,rfl,rfl,rfl,rfl,rfl,rfl,hp,hq,hr,hs,ha,hb,hc,?_⟩
 rintro (h | h | h | h | h | h)
 ·exact n4 (by rw [h])
 ·exact n5 (by rw [h])
 ·exact n6 (by rw [h])
 ·exact e1 (by rw [h])
 ·exact e2 (by rw [h])
 ·exact e3 (by rw [h])
theorem same_last (v0 v1 v2 v3 : RawP) (v4 v5 v6 : RawG) (s0 : v0.Sz) (s1 : v1.Sz) (s2 : v2.Sz) (s3 : v3.Sz) (s4 : v4.Sz) (s5 : v5.Sz) (s6 : v6.Sz) :
  ∃ (o : RawP) (c : Int),(0 ≤ c ∧ c ≤ 1000) ∧ SpecC Tryz.prog true 6 [.row (CellsC v0 v1 v2 v3 v4 v5 v6)] (.tup [.row o.cells,.c (gx (.int .i64 c))]) ∧
   SpecC Tryz.prog true 8 [.row (CellsC v0 v1 v2 v3 v4 v5 v6),.c (gx (.int .i64 1))] (.tup [.row (o.cells ++ zPG ++ zPG),.c (gx (.int .i64 c))]) := by
 by_cases hg : GoodC v0 v1 v2 v3 v4 v5 v6
 ·obtain ⟨p,q,r,s,a,b,c,rfl,rfl,rfl,rfl,rfl,rfl,rfl,hp,hq,hr,hs,ha,hb,hc,hn⟩ := good_parts hg
  have A := (nLast p q r s a b c hp hq hr hs ha hb hc).f hn
  have B := (rFaces1 p q r s a b c hp hq hr hs ha hb hc).f hn
  by_cases hk : kBad (ptX p) (ptY p) (ptX q) (ptY q) (ptX r) (ptY r) ∨ kBad (ptX p) (ptY p) (ptX q) (ptY q) (ptX s) (ptY s) ∨ kBad (ptX p) (ptY p) (ptX r) (ptY r) (ptX s) (ptY s) ∨ kBad (ptX q) (ptY q) (e9 p q r a b) (e10 p q r a b) (e11 p q s a c) (e12 p q s a c)
  ·exact ⟨zP1,370,by decide,A.t hk,B.t hk⟩
  ·by_cases ho : outPC (e15 p q r s a b c) (e16 p q r s a b c) = 0
   ·exact ⟨_,0,by decide,(A.f hk).t ho,(B.f hk).t ho⟩
   ·exact ⟨zP1,_,out_rng _ _,(A.f hk).f ho,(B.f hk).f ho⟩
 ·exact ⟨zP1,2,by decide,nLast_bad v0 v1 v2 v3 v4 v5 v6 s0 s1 s2 s3 s4 s5 s6 hg,rFaces1_bad v0 v1 v2 v3 v4 v5 v6 s0 s1 s2 s3 s4 s5 s6 hg⟩
theorem same_faces (v0 v1 v2 v3 : RawP) (v4 v5 v6 : RawG) (s0 : v0.Sz) (s1 : v1.Sz) (s2 : v2.Sz) (s3 : v3.Sz) (s4 : v4.Sz) (s5 : v5.Sz) (s6 : v6.Sz) :
  ∃ (o1 o2 o3 : RawP) (c : Int),(0 ≤ c ∧ c ≤ 1000) ∧ SpecC Tryz.prog true 7 [.row (CellsC v0 v1 v2 v3 v4 v5 v6)] (.tup [.row (o1.cells ++ o2.cells ++ o3.cells),.c (gx (.int .i64 c))]) ∧
   SpecC Tryz.prog true 8 [.row (CellsC v0 v1 v2 v3 v4 v5 v6),.c (gx (.int .i64 3))] (.tup [.row (o1.cells ++ o2.cells ++ o3.cells),.c (gx (.int .i64 c))]) := by
 by_cases hg : GoodC v0 v1 v2 v3 v4 v5 v6
 ·obtain ⟨p,q,r,s,a,b,c,rfl,rfl,rfl,rfl,rfl,rfl,rfl,hp,hq,hr,hs,ha,hb,hc,hn⟩ := good_parts hg
  have A := Eq.mp (congrArg (SpecC Tryz.prog true 7 [.row (CellsC (rawPt p) (rawPt q) (rawPt r) (rawPt s) (rawQ a) (rawQ b) (rawQ c))]) (trees (kBad (ptX p) (ptY p) (ptX q) (ptY q) (ptX r) (ptY r) ∨ kBad (ptX p) (ptY p) (ptX q) (ptY q) (ptX s) (ptY s) ∨ kBad (ptX p) (ptY p) (ptX r) (ptY r) (ptX s) (ptY s) ∨ kBad (ptX q) (ptY q) (e9 p q r a b) (e10 p q r a b) (e11 p q s a c) (e12 p q s a c))
   (kBad (ptX r) (ptY r) (e9 p q r a b) (e10 p q r a b) (e13 p r s b c) (e14 p r s b c)) (kBad (ptX s) (ptY s) (e11 p q s a c) (e12 p q s a c) (e13 p r s b c) (e14 p r s b c)) (outPC (e15 p q r s a b c) (e16 p q r s a b c)) (outPC (e17 p q r s a b c) (e18 p q r s a b c)) (outPC (e19 p q r s a b c) (e20 p q r s a b c)) (outPC_two _ _) (outPC_two _ _) (outPC_two _ _)
   (.tup [.row ((outR (e15 p q r s a b c) (e16 p q r s a b c)).cells ++ (outR (e17 p q r s a b c) (e18 p q r s a b c)).cells ++ (outR (e19 p q r s a b c) (e20 p q r s a b c)).cells),.c (gl (.int .i64 0))]))) ((nFaces p q r s a b c hp hq hr hs ha hb hc).f hn)
  have B := (rFaces3 p q r s a b c hp hq hr hs ha hb hc).f hn
  by_cases hk : kBad (ptX p) (ptY p) (ptX q) (ptY q) (ptX r) (ptY r) ∨ kBad (ptX p) (ptY p) (ptX q) (ptY q) (ptX s) (ptY s) ∨ kBad (ptX p) (ptY p) (ptX r) (ptY r) (ptX s) (ptY s) ∨ kBad (ptX q) (ptY q) (e9 p q r a b) (e10 p q r a b) (e11 p q s a c) (e12 p q s a c) ∨ kBad (ptX r) (ptY r) (e9 p q r a b) (e10 p q r a b) (e13 p r s b c) (e14 p r s b c) ∨ kBad (ptX s) (ptY s) (e11 p q s a c) (e12 p q s a c) (e13 p r s b c) (e14 p r s b c)
  ·have hk' := hk
   rw [← or_assoc,← or_assoc,← or_assoc] at hk'
   simp only [or_assoc] at hk'
   exact ⟨zP1,zP1,zP1,370,by decide,A.t (by simpa only [or_assoc] using hk),B.t hk⟩
  ·have A := A.f (by simpa only [or_assoc] using hk)
   have B := B.f hk
   by_cases o1 : outPC (e15 p q r s a b c) (e16 p q r s a b c) = 0
   ·by_cases o2 : outPC (e17 p q r s a b c) (e18 p q r s a b c) = 0
    ·by_cases o3 : outPC (e19 p q r s a b c) (e20 p q r s a b c) = 0
     ·exact ⟨_,_,_,0,by decide,((A.t o1).t o2).t o3,((B.t o1).t o2).t o3⟩
     ·exact ⟨zP1,zP1,zP1,_,out_rng _ _,((A.t o1).t o2).f o3,((B.t o1).t o2).f o3⟩
    ·exact ⟨zP1,zP1,zP1,_,out_rng _ _,(A.t o1).f o2,(B.t o1).f o2⟩
   ·exact ⟨zP1,zP1,zP1,_,out_rng _ _,A.f o1,B.f o1⟩
 ·exact ⟨zP1,zP1,zP1,2,by decide,nFaces_bad v0 v1 v2 v3 v4 v5 v6 s0 s1 s2 s3 s4 s5 s6 hg,rFaces3_bad v0 v1 v2 v3 v4 v5 v6 s0 s1 s2 s3 s4 s5 s6 hg⟩
theorem not_wide {v0 v1 v2 v3 : RawP} {v4 v5 v6 : RawG} (h : ¬ WideC v0.g v1.g v2.g v3.g v4 v5 v6) : v0.Sz ∧ v1.Sz ∧ v2.Sz ∧ v3.Sz ∧ v4.Sz ∧ v5.Sz ∧ v6.Sz := by
 unfold WideC Sz at h
 simp only [not_or] at h
 unfold RawP.Sz RawG.Sz
 omega
theorem law_true (v0 v1 v2 v3 : RawP) (v4 v5 v6 : RawG) : SpecC Tryz.prog true 3 [.row (CellsC v0 v1 v2 v3 v4 v5 v6)] (.r (.c (gl (.bool true)))) := by
 by_cases hw : WideC v0.g v1.g v2.g v3.g v4 v5 v6
 ·exact llaw_wide v0 v1 v2 v3 v4 v5 v6 hw
 ·obtain ⟨s0,s1,s2,s3,s4,s5,s6⟩ := not_wide hw
  obtain ⟨o1,c1,r1,A1,A2⟩ := same_last v0 v1 v2 v3 v4 v5 v6 s0 s1 s2 s3 s4 s5 s6
  obtain ⟨o2,o3,o4,c2,r2,A3,A4⟩ := same_faces v0 v1 v2 v3 v4 v5 v6 s0 s1 s2 s3 s4 s5 s6
  obtain ⟨o5,c3,r3,A5,A6⟩ := same_corner v0 v1 v2 v4 s0 s1 s2 s4
  exact llaw v0 v1 v2 v3 v4 v5 v6 o1 o2 o3 o4 o5 c1 c2 c3 r1 r2 r3 hw A1 A2 A3 A4 A5 A6
end Go.Proofs.YteljkhfbgliokaaGreat
