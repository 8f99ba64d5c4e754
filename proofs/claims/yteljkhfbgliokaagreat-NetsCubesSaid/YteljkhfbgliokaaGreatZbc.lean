/- Laws for the walk. -/
import Derived.Test.YteljkhfbgliokaaGreatZzz
import Derived.Test.YteljkhfbgliokaaGreatZav
import Derived.Test.YteljkhfbgliokaaGreatZbb
set_option linter.unusedVariables false
namespace Go.Proofs.YteljkhfbgliokaaGreat
open Go.RowKit Tr
structure RawS where
 x : RawG
 y : RawG
def RawS.val (s : RawS) : Value := .agg #[.bool s.x.n1,.string s.x.s1,.bool s.x.n2,.string s.x.s2,.bool s.x.n3,.string s.x.s3,.bool s.x.n4,.string s.x.s4,.bool s.y.n1,.string s.y.s1,.bool s.y.n2,.string s.y.s2,.bool s.y.n3,.string s.y.s3,.bool s.y.n4,.string s.y.s4]
def RawS.cells (s : RawS) : List GF := s.x.cells ++ s.y.cells
def zeroG : RawG := ⟨false,false,false,false,⟨#[]⟩,⟨#[]⟩,⟨#[]⟩,⟨#[]⟩⟩
def rawS (x y : QC) : RawS := ⟨rawQ x,rawQ y⟩
theorem rawS_val (x y : QC) : (rawS x y).val = encS x y := rfl
def sA (i : Nat) : List AC := gA i ++ gA (i + 8)
def kBad (x0 y0 x1 y1 x2 y2 : QC) : Prop := x0 * y1 = x1 * y0 ∨ x1 * y2 = x2 * y1 ∨ x2 * y0 = x0 * y2
theorem pmay (p : RawP) (r : Bool) (hr : r = true ↔ POk p.val) : PureC Tryz.prog 22 [p.val] (.bool r) := by
 obtain ⟨i,g⟩ := p
 cases i
 ·have h := gmay g r (by rw [hr]; exact pOk_num rfl)
  exact ev_pure (hp := false) (L := g.cells ++ [gx (.bool r)]) tys_ok mixed
   [gp 23 [.row (gA 0)] (.r (.c (.sym 8))) (enters_of Tryz.func23 (by kernel_rfl)) h (by kernel_rfl) (by kernel_rfl)] [] []
   Tryz.func22 100 [.row (.lit (.bool false) :: gA 0)] (.r (.c (.sym 8))) (by kernel_rfl) (by kernel_rfl) (by kernel_rfl)
 ·have h := fun w => run_eql_rp w ⟨true,g⟩ ⟨true,zeroG⟩ r (by rw [hr]; exact pOk_inf rfl)
  exact ev_pure (hp := false) (L := g.cells ++ [gx (.bool r)]) tys_ok mixed []
   [gb .eql 29 (.row (.lit (.bool true) :: gA 0)) (.row [.lit (.bool true),.lit (.bool false),.lit .str0,.lit (.bool false),.lit .str0,.lit (.bool false),.lit .str0,.lit (.bool false),.lit .str0]) (.sym 8) (agg_eql (by kernel_rfl) h) (by kernel_rfl) (by kernel_rfl) (by kernel_rfl)] []
   Tryz.func22 100 [.row (.lit (.bool true) :: gA 0)] (.r (.c (.sym 8))) (by kernel_rfl) (by kernel_rfl) (by kernel_rfl)
theorem g10 : PureC Tryz.prog 24 [.int .i64 1,.int .i64 0] (encQ ⟨1,0⟩) := gint 1 0 (by decide) (by decide) (by decide) (by decide)
theorem g00 : PureC Tryz.prog 24 [.int .i64 0,.int .i64 0] (encQ ⟨0,0⟩) := gint 0 0 (by decide) (by decide) (by decide) (by decide)
theorem spotof (p : Pt) : PureC Tryz.prog 15 [encP p] (encS (ptX p) (ptY p)) := by
  cases p with
  | none =>
    exact ev_pure (hp := false) (L := (rawQ ⟨1,0⟩).cells ++ (rawQ ⟨0,0⟩).cells) tys_ok mixed
      [gp 24 [.c (.lit (.int .i64 1)),.c (.lit (.int .i64 0))] (.r (.row (gA 0))) (enters_of Tryz.func24 (by kernel_rfl)) g10 (by kernel_rfl) (by kernel_rfl),
       gp 24 [.c (.lit (.int .i64 0)),.c (.lit (.int .i64 0))] (.r (.row (gA 8))) (enters_of Tryz.func24 (by kernel_rfl)) g00 (by kernel_rfl) (by kernel_rfl)] [] []
      Tryz.func15 100 [.row [.lit (.bool true),.lit (.bool false),.lit .str0,.lit (.bool false),.lit .str0,.lit (.bool false),.lit .str0,.lit (.bool false),.lit .str0]] (.r (.row (sA 0))) (by kernel_rfl) (by kernel_rfl) (by kernel_rfl)
  | some z =>
    exact ev_pure (hp := false) (L := (rawQ z).cells ++ (rawQ ⟨1,0⟩).cells) tys_ok mixed
      [gp 24 [.c (.lit (.int .i64 1)),.c (.lit (.int .i64 0))] (.r (.row (gA 8))) (enters_of Tryz.func24 (by kernel_rfl)) g10 (by kernel_rfl) (by kernel_rfl)] [] []
      Tryz.func15 100 [.row (.lit (.bool false) :: gA 0)] (.r (.row (sA 0))) (by kernel_rfl) (by kernel_rfl) (by kernel_rfl)
theorem ssame (x0 y0 x1 y1 : QC) (h0 : ZL x0 33554432) (h1 : ZL y0 33554432) (h2 : ZL x1 33554432) (h3 : ZL y1 33554432) (r : Bool) (hr : r = true ↔ x0 * y1 = x1 * y0) : PureC Tryz.prog 37 [encS x0 y0,encS x1 y1] (.bool r) := by
  obtain ⟨a,ha⟩ : ∃ a,a = x0 * y1 := ⟨_,rfl⟩
  obtain ⟨b,hb⟩ : ∃ b,b = x1 * y0 := ⟨_,rfl⟩
  have t1 := gtimes x0 y1 h0 h3
  have t2 := gtimes x1 y0 h2 h1
  rw [← ha] at t1 hr
  rw [← hb] at t2 hr
  have h := fun w => run_eql_rg w (rawQ a) (rawQ b) r (by rw [hr,rawQ_val,rawQ_val]; exact ⟨fun h => by rw [h],encQ_inj'⟩)
  exact ev_pure (hp := false) (L := (rawQ x0).cells ++ (rawQ y0).cells ++ (rawQ x1).cells ++ (rawQ y1).cells ++ (rawQ a).cells ++ (rawQ b).cells ++ [gx (.bool r)]) tys_ok mixed
    [gp 38 [.row (gA 0),.row (gA 24)] (.r (.row (gA 32))) (enters_of Tryz.func38 (by kernel_rfl)) t1 (by kernel_rfl) (by kernel_rfl),
     gp 38 [.row (gA 16),.row (gA 8)] (.r (.row (gA 40))) (enters_of Tryz.func38 (by kernel_rfl)) t2 (by kernel_rfl) (by kernel_rfl)]
    [gb .eql 27 (.row (gA 32)) (.row (gA 40)) (.sym 48) (agg_eql (by kernel_rfl) h) (by kernel_rfl) (by kernel_rfl) (by kernel_rfl)] []
    Tryz.func37 100 [.row (sA 0),.row (sA 16)] (.r (.c (.sym 48))) (by kernel_rfl) (by kernel_rfl) (by kernel_rfl)
theorem spoint (x y : QC) (hx : ZL x 6000000) (hy : ZL y 6000000) : PureC Tryz.prog 17 [encS x y] (.tuple #[outP x y,.int .i64 (outPC x y)]) := by
  by_cases h0 : y = ⟨0,0⟩
  · unfold outP outPC
    rw [if_pos h0,if_pos h0]
    exact ev_pure (hp := false) (L := (rawQ x).cells ++ (rawQ y).cells) tys_ok mixed
      [gp 25 [.row (gA 8)] (.r (.c (.lit (.bool true)))) (enters_of Tryz.func25 (by kernel_rfl)) (gzero y true (by simp [h0])) (by kernel_rfl) (by kernel_rfl)] [] []
      Tryz.func17 100 [.row (sA 0)] (.tup [.row [.lit (.bool true),.lit (.bool false),.lit .str0,.lit (.bool false),.lit .str0,.lit (.bool false),.lit .str0,.lit (.bool false),.lit .str0],.c (.lit (.int .i64 0))]) (by kernel_rfl) (by kernel_rfl) (by kernel_rfl)
  · have hz := gzero y false (by simp [h0])
    have ho := gover x y hx hy h0
    unfold outP outPC
    rw [if_neg h0,if_neg h0]
    obtain ⟨q,hq⟩ : ∃ q,q = x / y := ⟨_,rfl⟩
    rw [← hq] at ho ⊢
    by_cases hs : ShortF q.re ∧ ShortF q.im
    · rw [if_pos hs,if_pos hs]
      exact ev_pure (hp := false) (L := (rawQ x).cells ++ (rawQ y).cells ++ (rawQ q).cells) tys_ok mixed
        [gp 25 [.row (gA 8)] (.r (.c (.lit (.bool false)))) (enters_of Tryz.func25 (by kernel_rfl)) hz (by kernel_rfl) (by kernel_rfl),
         gp 41 [.row (gA 0),.row (gA 8)] (.r (.row (gA 16))) (enters_of Tryz.func41 (by kernel_rfl)) ho (by kernel_rfl) (by kernel_rfl),
         gp 42 [.row (gA 16)] (.r (.c (.lit (.bool true)))) (enters_of Tryz.func42 (by kernel_rfl)) (gfits q true (by simp [ShortZ,hs])) (by kernel_rfl) (by kernel_rfl)] [] []
        Tryz.func17 100 [.row (sA 0)] (.tup [.row (.lit (.bool false) :: gA 16),.c (.lit (.int .i64 0))]) (by kernel_rfl) (by kernel_rfl) (by kernel_rfl)
    · rw [if_neg hs,if_neg hs]
      exact ev_pure (hp := false) (L := (rawQ x).cells ++ (rawQ y).cells ++ (rawQ q).cells) tys_ok mixed
        [gp 25 [.row (gA 8)] (.r (.c (.lit (.bool false)))) (enters_of Tryz.func25 (by kernel_rfl)) hz (by kernel_rfl) (by kernel_rfl),
         gp 41 [.row (gA 0),.row (gA 8)] (.r (.row (gA 16))) (enters_of Tryz.func41 (by kernel_rfl)) ho (by kernel_rfl) (by kernel_rfl),
         gp 42 [.row (gA 16)] (.r (.c (.lit (.bool false)))) (enters_of Tryz.func42 (by kernel_rfl)) (gfits q false (by simp only [ShortZ]; simp [hs])) (by kernel_rfl) (by kernel_rfl)] [] []
        Tryz.func17 100 [.row (sA 0)] (.tup [.row [.lit (.bool false),.lit (.bool false),.lit .str0,.lit (.bool false),.lit .str0,.lit (.bool false),.lit .str0,.lit (.bool false),.lit .str0],.c (.lit (.int .i64 4))]) (by kernel_rfl) (by kernel_rfl) (by kernel_rfl)
end Go.Proofs.YteljkhfbgliokaaGreat
namespace Go.Proofs.YteljkhfbgliokaaGreat
open Go.RowKit Tr
def RawG.vals (g : RawG) : List Value := [.bool g.n1,.string g.s1,.bool g.n2,.string g.s2,.bool g.n3,.string g.s3,.bool g.n4,.string g.s4]
def RawP.vals (p : RawP) : List Value := .bool p.i :: p.g.vals
def syms (i n : Nat) : List AC := (List.range n).map fun k => .sym (i + k)
theorem rawG_inj {g h : RawG} (e : g.val = h.val) : g = h := by
 obtain ⟨n1,n2,n3,n4,s1,s2,s3,s4⟩ := g
 obtain ⟨m1,m2,m3,m4,t1,t2,t3,t4⟩ := h
 simp only [RawG.val,Value.agg.injEq,Array.mk.injEq,List.cons.injEq,Value.bool.injEq,Value.string.injEq,and_true] at e
 obtain ⟨rfl,rfl,rfl,rfl,rfl,rfl,rfl,rfl⟩ := e
 rfl
theorem rawP_inj {p q : RawP} (e : p.val = q.val) : p = q := by
 obtain ⟨i,n1,n2,n3,n4,s1,s2,s3,s4⟩ := p
 obtain ⟨j,m1,m2,m3,m4,t1,t2,t3,t4⟩ := q
 simp only [RawP.val,Value.agg.injEq,Array.mk.injEq,List.cons.injEq,Value.bool.injEq,Value.string.injEq,and_true] at e
 obtain ⟨rfl,rfl,rfl,rfl,rfl,rfl,rfl,rfl,rfl⟩ := e
 rfl
theorem gOk_raw {g : RawG} (h : GOk g.val) : ∃ z,g = rawQ z ∧ ShortZ z := by
 obtain ⟨z,e,hs⟩ := h
 exact ⟨z,rawG_inj (by rw [e,rawQ_val]),hs⟩
theorem pOk_raw {p : RawP} (h : POk p.val) : ∃ q,p = rawPt q ∧ ShortP q := by
 obtain ⟨q,e,hs⟩ := h
 exact ⟨q,rawP_inj (by rw [e,rawPt_val]),hs⟩
theorem rawQ_ok {z : QC} (h : ShortZ z) : GOk (rawQ z).val := ⟨z,rawQ_val z,h⟩
theorem rawPt_ok {p : Pt} (h : ShortP p) : POk (rawPt p).val := ⟨p,rawPt_val p,h⟩
theorem spotof' (p : Pt) : PureC Tryz.prog 15 [(rawPt p).val] (encS (ptX p) (ptY p)) := by rw [rawPt_val]; exact spotof p
end Go.Proofs.YteljkhfbgliokaaGreat
namespace Go.Proofs.YteljkhfbgliokaaGreat
open Go.RowKit Tr
set_option maxRecDepth 100000 in
set_option maxHeartbeats 1600000 in
theorem SMay_num (n1 n2 n3 n4 : Bool) (s1 s2 s3 s4 : ByteArray) (l1 : s1.size < 274877906944) (l2 : s2.size < 274877906944) (l3 : s3.size < 274877906944) (l4 : s4.size < 274877906944) (w : World) :
  Calls Tryz.prog 18 #[.agg #[.bool false,.bool n1,.string s1,.bool n2,.string s2,.bool n3,.string s3,.bool n4,.string s4]] w fun e w' => e = .returned (.bool (okB n1 n2 s1 s2 && okB n3 n4 s3 s4)) ∧ Below w.heap.size w w' := by
 have H1 := Lib.hid (GMay_any n1 n2 n3 n4 s1 s2 s3 s4 l1 l2 l3 l4 (w.alloc (.cells #[.bool false,.bool n1,.string s1,.bool n2,.string s2,.bool n3,.string s3,.bool n4,.string s4] 29)))
 have HA := Lib.hid (show Below w.heap.size w (w.alloc (.cells #[.bool false,.bool n1,.string s1,.bool n2,.string s2,.bool n3,.string s3,.bool n4,.string s4] 29)) from br.alloc (Nat.le_refl _) _)
 obtain ⟨r,hr⟩ : ∃ r,r = (okB n1 n2 s1 s2 && okB n3 n4 s3 s4) := ⟨_,rfl⟩
 rw [← hr] at H1 ⊢
 clear hr
 go_enter Tryz.func18,Tryz.ntmps18
 go_wp2_with fail
 refine H1.out.mono ?_
 rintro e w1 ⟨rfl,hb1⟩
 have HB := Lib.hid (HA.out.trans (hb1.mono (by simp)))
 clear hb1
 go_wp2
 go_ret
 exact ⟨rfl,HB.out⟩
set_option maxRecDepth 100000 in
set_option maxHeartbeats 1600000 in
theorem SMay_inf (n1 n2 n3 n4 : Bool) (s1 s2 s3 s4 : ByteArray) (r : Bool) (hr : r = true ↔ .agg #[.bool true,.bool n1,.string s1,.bool n2,.string s2,.bool n3,.string s3,.bool n4,.string s4] = infP) (w : World) :
    Calls Tryz.prog 18 #[.agg #[.bool true,.bool n1,.string s1,.bool n2,.string s2,.bool n3,.string s3,.bool n4,.string s4]] w fun e w' => e = .returned (.bool r) ∧ Below w.heap.size w w' := by
  obtain ⟨W,hW⟩ : ∃ W,W = w.alloc (.cells #[.bool true,.bool n1,.string s1,.bool n2,.string s2,.bool n3,.string s3,.bool n4,.string s4] 29) := ⟨_,rfl⟩
  obtain ⟨⟨e0,e1,e2,e3,e4,e5,e6,e7,e8⟩,_⟩ := new_nine w (.bool true) (.bool n1) (.string s1) (.bool n2) (.string s2) (.bool n3) (.string s3) (.bool n4) (.string s4) 29 br
  rw [← hW] at e0 e1 e2 e3 e4 e5 e6 e7 e8
  have hs : w.heap.size < W.heap.size := by rw [hW]; simp
  have hb : Below w.heap.size w W := by rw [hW]; exact br.alloc (Nat.le_refl _) _
  have HV := Lib.hid (And.intro hW (And.intro hb hr))
  clear hW hb hr
  go_enter Tryz.func18,Tryz.ntmps18
  go_wp2_with fail
  rw [← HV.out.1]
  try go_wp2_with fail
  refine wp_region_inv [(.lit,[]),(.val,[])]
    (pickF [(1,fun v _ _ => v = .agg #[.bool true,.bool false,.string ⟨#[]⟩,.bool false,.string ⟨#[]⟩,.bool false,.string ⟨#[]⟩,.bool false,.string ⟨#[]⟩])]) (by kernel_rfl) ?_ ?_ (by simp) (by simp) (by kernel_rfl)
  · exact keeps_pick (by simp only [List.mem_cons,List.not_mem_nil,or_false]; rintro p rfl; exact fun _ _ _ _ _ _ _ h => h)
  · refine ⟨_,fun f w1 h1 => by (have d0 := ct h1 hs e0; have d1 := ct h1 hs e1; have d2 := ct h1 hs e2; have d3 := ct h1 hs e3; have d4 := ct h1 hs e4; have d5 := ct h1 hs e5; have d6 := ct h1 hs e6; have d7 := ct h1 hs e7; have d8 := ct h1 hs e8; go_simp; rfl),?_⟩
    simp only [Act.put,nrA,nrB,nrC,Nat.reduceAdd]
    refine ⟨fun f w1 A1 k1 hA hN hd K hK => by
      go_simp
      refine (Infinity_any w1).mono ?_
      rintro e w' ⟨rfl,hb⟩
      exact hK _ _ hb rfl,?_⟩
    intro f w1 k1 hF
    have i2 : f 1 = .agg #[.bool true,.bool false,.string ⟨#[]⟩,.bool false,.string ⟨#[]⟩,.bool false,.string ⟨#[]⟩,.bool false,.string ⟨#[]⟩] := hF.2
    clear hF
    simp only [Act.put,nrA,nrB,nrC]
    obtain ⟨t0,ht0⟩ : ∃ t0 : ByteArray,t0 = ⟨#[]⟩ := ⟨_,rfl⟩
    rw [← ht0] at i2
    rw [i2]
    clear i2
    have HT := Lib.hid ht0
    clear ht0
    have HB := Lib.hid (HV.out.2.1.trans ((br.drew.trans k1).mono HV.out.2.1.size))
    clear k1 e0 e1 e2 e3 e4 e5 e6 e7 e8
    go_wp2
    all_goals (
      go_ret
      refine ⟨?_,HB.out⟩
      have hre := HV.out.2.2
      unfold infP at hre
      rw [← HT.out] at hre
      simp only [Value.agg.injEq,Array.mk.injEq,List.cons.injEq,Value.bool.injEq,Value.string.injEq,and_true,true_and] at hre
      simp only [toL_iff] at *
      first
        | (have hr : r = true := hre.2 (by simp [*])
           rw [hr]; rfl)
        | (have hr : r = false := by
             cases h : r
             · rfl
             · obtain ⟨a,b,c,d,e,f,g,h⟩ := hre.1 h
               exfalso
               subst_vars
               contradiction
           rw [hr]; rfl))
end Go.Proofs.YteljkhfbgliokaaGreat
namespace Tr
open Go Go.RowKit
inductive FR where
 | c (g : GF) | row (l : List GF)
inductive FV where
 | r (x : FR) | tup (l : List FR)
def gl (l : LV) : GF := gx l.val (by cases l <;> rfl)
def okg : List GF → List Value → World → (Nat → Prop) → Prop
 | [],[],_,_ => True
 | g :: l,v :: vs,w,A => g.R v w A ∧ okg l vs w A
 | _,_,_,_ => False
def FR.R : FR → Fact
 | .c g => g.R
 | .row l => fun v w A => ∃ vs,v = .agg vs.toArray ∧ okg l vs w A
def okf : List FR → List Value → World → (Nat → Prop) → Prop
 | [],[],_,_ => True
 | x :: l,v :: vs,w,A => x.R v w A ∧ okf l vs w A
 | _,_,_,_ => False
def FV.R : FV → Fact
 | .r x => x.R
 | .tup l => fun v w A => ∃ vs,v = .tuple vs.toArray ∧ okf l vs w A
structure SpecC (P : Program) (hp : Bool) (f : FuncId) (args : List FR) (res : FV) : Prop where
 ent : Enters P f
 ok : ∀ (w : World) (A : Nat → Prop) (vs : List Value),(hp = true → Rcv A w) → (∀ n,A n → n < w.heap.size) → okf args vs w A →
  Calls P f vs.toArray w fun r w' => ∃ v,r = .returned v ∧ res.R v w' A ∧ Below w.heap.size w w'
section
variable {P : Program} {hp : Bool} {fi : FuncId} {a : List FR} {r s : FV} {c : Prop} [Decidable c]
theorem SpecC.it (h : c) (k : SpecC P hp fi a r) : SpecC P hp fi a (if c then r else s) := by rw [if_pos h]; exact k
theorem SpecC.ie (h : ¬ c) (k : SpecC P hp fi a s) : SpecC P hp fi a (if c then r else s) := by rw [if_neg h]; exact k
theorem SpecC.t (k : SpecC P hp fi a (if c then r else s)) (h : c) : SpecC P hp fi a r := by rw [if_pos h] at k; exact k
theorem SpecC.f (k : SpecC P hp fi a (if c then r else s)) (h : ¬ c) : SpecC P hp fi a s := by rw [if_neg h] at k; exact k
end
def AC.lk (L : List GF) : AC → Option GF
 | .sym i => some (L.getD i g0)
 | .lit l => some (gl l)
 | _ => none
def acsK (L : List GF) : List AC → Option (List GF)
 | [] => some []
 | x :: l => match x.lk L,acsK L l with | some v,some vs => some (v :: vs) | _,_ => none
def AR.lk (L : List GF) : AR → Option FR
 | .c x => match x.lk L with | some g => some (.c g) | none => none
 | .row l => match acsK L l with | some vs => some (.row vs) | none => none
def arsK (L : List GF) : List AR → Option (List FR)
 | [] => some []
 | x :: l => match x.lk L,arsK L l with | some v,some vs => some (v :: vs) | _,_ => none
def AV.lk (L : List GF) : AV → Option FV
 | .r x => match x.lk L with | some g => some (.r g) | none => none
 | .tup l => match arsK L l with | some vs => some (.tup vs) | none => none
 | _ => none
section
variable {P : Program} {L : List GF} {hp : Bool} {σ : Nat → Option Nat} {w : World} {A : Nat → Prop}
theorem AC.lk_ok {x : AC} {g : GF} {v : Value} (h : x.lk L = some g) : x.ok (gT L) σ v w A ↔ g.R v w A := by
 cases x with
 | sym i => cases h; exact Iff.rfl
 | lit l => cases h; exact Iff.rfl
 | _ => cases h
theorem acsK_ok : ∀ {l : List AC} {gs : List GF} {vs : List Value},acsK L l = some gs → (oks (gT L) σ l vs w A ↔ okg gs vs w A)
 | [],gs,vs,h => by cases h; cases vs <;> exact Iff.rfl
 | x :: l,gs,vs,h => by
  unfold acsK at h
  split at h
  ·rename_i u r h1 h2
   cases h
   cases vs with
   | nil => exact Iff.rfl
   | cons v vs => exact and_congr (AC.lk_ok h1) (acsK_ok h2)
  ·cases h
theorem AR.lk_ok {x : AR} {g : FR} {v : Value} (h : x.lk L = some g) : x.ok (gT L) σ v w A ↔ g.R v w A := by
 cases x with
 | c x =>
  unfold AR.lk at h
  simp only at h
  split at h
  ·rename_i g' h1; cases h; exact AC.lk_ok (x := x) h1
  ·cases h
 | row l =>
  unfold AR.lk at h
  simp only at h
  split at h
  ·rename_i gs h1; cases h
   exact exists_congr fun vs => and_congr Iff.rfl (acsK_ok h1)
  ·cases h
theorem arsK_ok : ∀ {l : List AR} {gs : List FR} {vs : List Value},arsK L l = some gs → (okr (gT L) σ l vs w A ↔ okf gs vs w A)
 | [],gs,vs,h => by cases h; cases vs <;> exact Iff.rfl
 | x :: l,gs,vs,h => by
  unfold arsK at h
  split at h
  ·rename_i u r h1 h2
   cases h
   cases vs with
   | nil => exact Iff.rfl
   | cons v vs => exact and_congr (AR.lk_ok h1) (arsK_ok h2)
  ·cases h
theorem AV.lk_ok {x : AV} {g : FV} {v : Value} (h : x.lk L = some g) : x.ok (gT L) σ v w A ↔ g.R v w A := by
 cases x with
 | r x =>
  unfold AV.lk at h
  simp only at h
  split at h
  ·rename_i g' h1; cases h; exact AR.lk_ok (x := x) h1
  ·cases h
 | tup l =>
  unfold AV.lk at h
  simp only at h
  split at h
  ·rename_i gs h1; cases h
   exact exists_congr fun vs => and_congr Iff.rfl (arsK_ok h1)
  ·cases h
 | _ => cases h
end
section
variable {P : Program} {L : List GF}
def gs {hp' hp : Bool} {f : FuncId} {fa : List FR} {fr : FV} (h : SpecC P hp' f fa fr) (args : List AR) (res : AV) (ha : arsK L args = some fa := by kernel_rfl) (hr : res.lk L = some fr := by kernel_rfl) (hh : (!hp' || hp) = true := by rfl) : GC P L hp :=
 ⟨{ f,args,res },h.ent,fun σ w A us hR hA hu _ => by
  have hR' : hp' = true → Rcv A w := fun e => hR (by subst e; simpa using hh)
  exact (h.ok w A us hR' hA ((arsK_ok ha).1 hu)).mono fun r w' ⟨v,h1,h2,h3⟩ => ⟨v,h1,(AV.lk_ok hr).2 h2,h3⟩⟩
theorem ev_sp {hp : Bool} {tys : List (TypeId × TyI)} (ht : ∀ p ∈ tys,p.2.good P p.1 = true) (hm : P.follows .mixedOrders = true) (C : List (GC P L hp)) (B : List (GB P L)) (O : List (GO P L)) {f : FuncId} {fn : Func} (hf : P.funcs[f]? = some fn) (ent : Enters P f) (fuel : Nat) (args : List AR) (res : AV)
  {fa : List FR} {fr : FV} (hev : evF (gcx tys hp L C B O) fn fuel args res = true := by kernel_rfl) (ha : arsK L args = some fa := by kernel_rfl) (hr : res.lk L = some fr := by kernel_rfl) : SpecC P hp f fa fr :=
 ⟨ent,fun w A vs hR hA hu => (ev_gen ht hm C B O hf fuel args res hev w A vs hR hA ((arsK_ok ha).2 hu)).mono fun r w' ⟨v,h1,h2,h3⟩ => ⟨v,h1,(AV.lk_ok hr).1 h2,h3⟩⟩
theorem ev_spl {hp : Bool} {tys : List (TypeId × TyI)} (ht : ∀ p ∈ tys,p.2.good P p.1 = true) (hm : P.follows .mixedOrders = true) (C : List (GC P L hp)) (B : List (GB P L)) (O : List (GO P L)) (cuts : List LC) {f : FuncId} {fn : Func} (hf : P.funcs[f]? = some fn) (ent : Enters P f) (fuel : Nat) (args : List AR) (res : AV)
  (hev : evF (gcl tys hp L C B O cuts) fn fuel args res = true) (hpre : cuts.all (fun k => k.pre.low && blocksOk (gcl tys hp L C B O cuts) k.pre) = true) {c : Code} (hc : fn.body = some c) (hcut : ∀ x ∈ loopsOf c,∀ k ∈ cuts,keyOf x = some k.key → k.Ok P (gT L) (gcl tys hp L C B O cuts) x)
  {fa : List FR} {fr : FV} (ha : arsK L args = some fa) (hr : res.lk L = some fr) : SpecC P hp f fa fr :=
 ⟨ent,fun w A vs hR hA hu => (ev_loop ht hm C B O cuts hf fuel args res hev hpre hc hcut w A vs hR hA ((arsK_ok ha).2 hu)).mono fun r w' ⟨v,h1,h2,h3⟩ => ⟨v,h1,(AV.lk_ok hr).1 h2,h3⟩⟩
def gfV : List GF → Option (List Value)
 | [] => some []
 | g :: l => match g.ex,gfV l with | some v,some vs => some (v :: vs) | _,_ => none
def FR.val : FR → Option Value
 | .c g => g.ex
 | .row l => match gfV l with | some vs => some (.agg vs.toArray) | none => none
def frsV : List FR → Option (List Value)
 | [] => some []
 | x :: l => match x.val,frsV l with | some v,some vs => some (v :: vs) | _,_ => none
def FV.val : FV → Option Value
 | .r x => x.val
 | .tup l => match frsV l with | some vs => some (.tuple vs.toArray) | none => none
variable {w : World} {A : Nat → Prop}
theorem gfV_ok : ∀ {l : List GF} {us vs : List Value},gfV l = some us → (okg l vs w A ↔ vs = us)
 | [],us,vs,h => by cases h; cases vs <;> simp [okg]
 | g :: l,us,vs,h => by
  unfold gfV at h
  split at h
  ·rename_i u r h1 h2
   cases h
   cases vs with
   | nil => simp [okg]
   | cons v vs => simp only [okg,g.exact u h1,gfV_ok h2,List.cons.injEq]
  ·cases h
theorem FR.val_ok {x : FR} {u v : Value} (h : x.val = some u) : x.R v w A ↔ v = u := by
 cases x with
 | c g => exact g.exact u h v w A
 | row l =>
  unfold FR.val at h
  simp only at h
  split at h
  ·rename_i vs h1
   cases h
   constructor
   ·rintro ⟨us,rfl,h2⟩; rw [(gfV_ok h1).1 h2]
   ·rintro rfl; exact ⟨_,rfl,(gfV_ok h1).2 rfl⟩
  ·cases h
theorem frsV_ok : ∀ {l : List FR} {us vs : List Value},frsV l = some us → (okf l vs w A ↔ vs = us)
 | [],us,vs,h => by cases h; cases vs <;> simp [okf]
 | x :: l,us,vs,h => by
  unfold frsV at h
  split at h
  ·rename_i u r h1 h2
   cases h
   cases vs with
   | nil => simp [okf]
   | cons v vs => simp only [okf,FR.val_ok h1,frsV_ok h2,List.cons.injEq]
  ·cases h
theorem FV.val_ok {x : FV} {u v : Value} (h : x.val = some u) : x.R v w A ↔ v = u := by
 cases x with
 | r x => exact FR.val_ok (x := x) h
 | tup l =>
  unfold FV.val at h
  simp only at h
  split at h
  ·rename_i vs h1
   cases h
   constructor
   ·rintro ⟨us,rfl,h2⟩; rw [(frsV_ok h1).1 h2]
   ·rintro rfl; exact ⟨_,rfl,(frsV_ok h1).2 rfl⟩
  ·cases h
theorem spec_pure {f : FuncId} {vs : List Value} {v : Value} {fa : List FR} {fr : FV} (ent : Enters P f) (h : PureC P f vs v) (ha : frsV fa = some vs) (hr : fr.val = some v) : SpecC P false f fa fr :=
 ⟨ent,fun w A us _ _ hu => by
  have e : us = vs := (frsV_ok ha).1 hu
  subst e
  exact (h w).mono fun r w' h => ⟨v,h.1,(FV.val_ok hr).2 rfl,h.2⟩⟩
theorem SpecC.pure {hp : Bool} {f : FuncId} {vs : List Value} {v : Value} {fa : List FR} {fr : FV} (h : SpecC P hp f fa fr) (ha : frsV fa = some vs) (hr : fr.val = some v) : PureC P f vs v := fun w =>
 (h.ok w NoA vs (fun _ => rcv_none w) (fun _ h => h.elim) ((frsV_ok ha).2 rfl)).mono fun r w' ⟨u,h1,h2,h3⟩ => ⟨by rw [h1,(FV.val_ok hr).1 h2],h3⟩
theorem spec1 {hp : Bool} {f : FuncId} {x : FR} {res : FV} (ent : Enters P f) (h : ∀ (w : World) (A : Nat → Prop) (u : Value),(hp = true → Rcv A w) → (∀ n,A n → n < w.heap.size) → x.R u w A → Calls P f #[u] w fun r w' => ∃ v,r = .returned v ∧ res.R v w' A ∧ Below w.heap.size w w') : SpecC P hp f [x] res :=
 ⟨ent,fun w A us hR hA hu => by
  match us,hu with
  | [u],hu => exact h w A u hR hA hu.1⟩
theorem spec2 {hp : Bool} {f : FuncId} {x y : FR} {res : FV} (ent : Enters P f) (h : ∀ (w : World) (A : Nat → Prop) (u v : Value),(hp = true → Rcv A w) → (∀ n,A n → n < w.heap.size) → x.R u w A → y.R v w A → Calls P f #[u,v] w fun r w' => ∃ v,r = .returned v ∧ res.R v w' A ∧ Below w.heap.size w w') : SpecC P hp f [x,y] res :=
 ⟨ent,fun w A us hR hA hu => by
  match us,hu with
  | [u,v],hu => exact h w A u v hR hA hu.1 hu.2.1⟩
def sy (l : List Nat) : AR := .row (l.map .sym)
def rnC (bs : List Nat) : AC → AC
 | .own b o => .own (bs.getD b 0) o
 | .sl b o n c => .sl (bs.getD b 0) o n c
 | x => x
def rnR (bs : List Nat) : AR → AR
 | .c x => .c (rnC bs x)
 | .row l => .row (l.map (rnC bs))
def lowC (n : Nat) : AC → Bool
 | .own b _ | .sl b _ _ _ => decide (b < n)
 | .fn _ _ _ => false
 | _ => true
theorem rnC_ok {T : Nat → Fact} {σ σ' : Nat → Option Nat} {bs : List Nat} (hσ : ∀ k,k < bs.length → σ' k = σ (bs.getD k 0)) {x : AC} (hx : lowC bs.length x = true) {v : Value} (h : (rnC bs x).ok T σ v w A) : x.ok T σ' v w A := by
 cases x with
 | sym i => exact h
 | lit l => exact h
 | own b o =>
  obtain ⟨n,h1,h2⟩ := h
  exact ⟨n,(hσ b (by simpa [lowC] using hx)).trans h1,h2⟩
 | sl b o n c =>
  obtain ⟨m,h1,h2⟩ := h
  exact ⟨m,(hσ b (by simpa [lowC] using hx)).trans h1,h2⟩
 | fn f a b => cases hx
theorem rnCs_ok {T : Nat → Fact} {σ σ' : Nat → Option Nat} {bs : List Nat} (hσ : ∀ k,k < bs.length → σ' k = σ (bs.getD k 0)) : ∀ {l : List AC} {vs : List Value},l.all (lowC bs.length) = true → oks T σ (l.map (rnC bs)) vs w A → oks T σ' l vs w A
 | [],[],_,_ => trivial
 | x :: l,v :: vs,hx,h => by
  simp only [List.all_cons,Bool.and_eq_true] at hx
  exact ⟨rnC_ok hσ hx.1 h.1,rnCs_ok hσ hx.2 h.2⟩
 | [],_ :: _,_,h => h.elim
 | _ :: _,[],_,h => h.elim
def lowR (n : Nat) (x : AR) : Bool := x.cells.all (lowC n)
theorem rnR_ok {T : Nat → Fact} {σ σ' : Nat → Option Nat} {bs : List Nat} (hσ : ∀ k,k < bs.length → σ' k = σ (bs.getD k 0)) {x : AR} (hx : lowR bs.length x = true) {v : Value} (h : (rnR bs x).ok T σ v w A) : x.ok T σ' v w A := by
 cases x with
 | c x => exact rnC_ok (x := x) hσ (by simpa [lowR,AR.cells] using hx) h
 | row l => obtain ⟨vs,e,h2⟩ := h; exact ⟨vs,e,rnCs_ok hσ hx h2⟩
theorem rnRs_ok {T : Nat → Fact} {σ σ' : Nat → Option Nat} {bs : List Nat} (hσ : ∀ k,k < bs.length → σ' k = σ (bs.getD k 0)) : ∀ {l : List AR} {vs : List Value},l.all (lowR bs.length) = true → okr T σ (l.map (rnR bs)) vs w A → okr T σ' l vs w A
 | [],[],_,_ => trivial
 | x :: l,v :: vs,hx,h => by
  simp only [List.all_cons,Bool.and_eq_true] at hx
  exact ⟨rnR_ok hσ hx.1 h.1,rnRs_ok hσ hx.2 h.2⟩
 | [],_ :: _,_,h => h.elim
 | _ :: _,[],_,h => h.elim
theorem needs_get {T : Nat → Fact} {σ : Nat → Option Nat} {f : AB → AB} : ∀ {abs : List AB} {bs : List Nat},bs.length = abs.length → needsP T σ w A (bs.zip (abs.map f)) → ∀ k ab,abs[k]? = some ab → ∃ n vs,σ (bs.getD k 0) = some n ∧ A n ∧ w.heap[n]? = some (.cells vs.toArray (f ab).ty (0,0)) ∧ oks T σ (f ab).cells vs w A
 | [],_,_,_,k,ab,h => by simp at h
 | a :: abs,[],h,_,_,_,_ => by simp at h
 | a :: abs,b :: bs,hl,h,k,ab,hk => by
  cases k with
  | zero =>
   simp only [List.getElem?_cons_zero,Option.some.injEq] at hk
   subst hk
   exact h.1
  | succ k => exact needs_get (by simpa using hl) h.2 k ab (by simpa using hk)
def rnB (bs : List Nat) (ab : AB) : AB := ⟨ab.cells.map (rnC bs),ab.ty⟩
def gvM {hp : Bool} {tys : List (TypeId × TyI)} (ht : ∀ p ∈ tys,p.2.good P p.1 = true) (hm : P.follows .mixedOrders = true) (C : List (GC P L hp)) (B : List (GB P L)) (O : List (GO P L)) {f : FuncId} {fn : Func} (hf : P.funcs[f]? = some fn) (ent : Enters P f) (fuel : Nat) (bs : List Nat) (abs : List AB) (args : List AR) (res : AV)
  (hev : evL (gcx tys hp L C B O) fn fuel abs args res = true := by kernel_rfl) (hc : (bs.length == abs.length && args.all (lowR bs.length) && abs.all (fun ab => ab.cells.all (lowC bs.length))) = true := by kernel_rfl) : GC P L hp :=
 ⟨{ f,args := args.map (rnR bs),res,needs := bs.zip (abs.map (rnB bs)) },ent,fun σ w A us hR hA hu hn => by
  simp only [Bool.and_eq_true,beq_iff_eq] at hc
  obtain ⟨⟨hl,ha⟩,hb⟩ := hc
  have hnr : res.noown = true := by
   have := hev
   unfold evL at this
   simp only [Bool.and_eq_true] at this
   exact this.1
  let σ' : Nat → Option Nat := fun k => if k < bs.length then σ (bs.getD k 0) else none
  have hσ : ∀ k,k < bs.length → σ' k = σ (bs.getD k 0) := fun k h => by simp only [σ']; rw [if_pos h]
  refine (ev_lent (gcx_ok ht C B O) hm hf fuel hev (fun k hk => by cases hk) (fun c _ x _ k hk => by cases hk) σ' w A us hR hA (rnRs_ok hσ ha hu) (fun k ab hk => ?_) (fun k hk => ?_)).mono ?_
  ·have hlt : k < bs.length := by rw [hl]; exact (List.getElem?_eq_some_iff.1 hk).1
   obtain ⟨n,vs,h1,h2,h3,h4⟩ := needs_get hl hn k ab hk
   exact ⟨n,vs,(hσ k hlt).trans h1,h2,h3,rnCs_ok hσ (List.all_eq_true.1 hb ab (List.mem_of_getElem? hk)) h4⟩
  ·simp only [σ']; rw [if_neg (by omega)]
  ·rintro r w' ⟨v,h1,h2,h3⟩
   exact ⟨v,h1,AV.ok_noown hnr h2,h3⟩⟩
end
def ga : GF where
 R := fun v _ _ => v.oneCell' = true ∧ ∀ k x,v ≠ .int k x
 int := false
 keeps := fun _ _ _ _ _ _ _ h => h
 cell := fun v w A h => h.1
 noint := fun _ v w A h => h.2
 ex := none
 exact := fun u e => by cases e
def gai : GF where
 R := fun v _ _ => v.oneCell' = true
 int := true
 keeps := fun _ _ _ _ _ _ _ h => h
 cell := fun v w A h => h
 noint := fun e => by cases e
 ex := none
 exact := fun u e => by cases e
def GF.any (g : GF) : GF := if g.int then gai else ga
def FR.any : FR → FR | .c g => .c g.any | .row l => .row (l.map GF.any)
def FV.any : FV → FV | .r x => .r x.any | .tup l => .tup (l.map FR.any)
section
variable {w : World} {A : Nat → Prop}
theorem GF.any_ok {g : GF} {v : Value} (h : g.R v w A) : g.any.R v w A := by
 unfold GF.any
 cases hi : g.int
 ·exact ⟨g.cell v w A h,g.noint hi v w A h⟩
 ·exact g.cell v w A h
theorem okg_any : ∀ {l : List GF} {vs : List Value},okg l vs w A → okg (l.map GF.any) vs w A
 | [],[],_ => trivial
 | g :: l,v :: vs,h => ⟨GF.any_ok h.1,okg_any h.2⟩
 | [],_ :: _,h => h.elim
 | _ :: _,[],h => h.elim
theorem FR.any_ok {x : FR} {v : Value} (h : x.R v w A) : x.any.R v w A := by
 cases x with
 | c g => exact GF.any_ok (g := g) h
 | row l => obtain ⟨vs,e,h⟩ := h; exact ⟨vs,e,okg_any h⟩
theorem okf_any : ∀ {l : List FR} {vs : List Value},okf l vs w A → okf (l.map FR.any) vs w A
 | [],[],_ => trivial
 | g :: l,v :: vs,h => ⟨FR.any_ok h.1,okf_any h.2⟩
 | [],_ :: _,h => h.elim
 | _ :: _,[],h => h.elim
theorem FV.any_ok {x : FV} {v : Value} (h : x.R v w A) : x.any.R v w A := by
 cases x with
 | r x => exact FR.any_ok (x := x) h
 | tup l => obtain ⟨vs,e,h⟩ := h; exact ⟨vs,e,okf_any h⟩
end
theorem SpecC.anyL {P : Program} {hp : Bool} {fi : FuncId} {a : List FR} {r s : FV} (k : SpecC P hp fi a r) (h : r.any = s) : SpecC P hp fi a s :=
 ⟨k.ent,fun w A vs h1 h2 h3 => (k.ok w A vs h1 h2 h3).mono fun _ _ ⟨v,e,h4,h5⟩ => ⟨v,e,h ▸ FV.any_ok h4,h5⟩⟩
theorem SpecC.anyI {P : Program} {hp : Bool} {fi : FuncId} {a : List FR} {r s q : FV} {c : Prop} [Decidable c] (k : SpecC P hp fi a (if c then r else s)) (h1 : SpecC P hp fi a r → SpecC P hp fi a q) (h2 : SpecC P hp fi a s → SpecC P hp fi a q) : SpecC P hp fi a q := by
 by_cases h : c
 ·rw [if_pos h] at k; exact h1 k
 ·rw [if_neg h] at k; exact h2 k
inductive FA where
 | f (x : FR) | sl (b off len cap : Nat) | own (b off : Nat)
def FA.R (σ : Nat → Option Nat) : FA → Fact
 | .f x => x.R
 | .sl b o n c => fun v _ _ => ∃ m,σ b = some m ∧ v = .slice (some ⟨m,o,none⟩) n c
 | .own b o => fun v _ _ => ∃ n,σ b = some n ∧ v = .pointer (some ⟨n,o,none⟩)
def oka (σ : Nat → Option Nat) : List FA → List Value → World → (Nat → Prop) → Prop
 | [],[],_,_ => True
 | x :: l,v :: vs,w,A => x.R σ v w A ∧ oka σ l vs w A
 | _,_,_,_ => False
structure SpecM (P : Program) (hp : Bool) (f : FuncId) (bl : List (List GF × TypeId)) (args : List FA) (res : FV) : Prop where
 ent : Enters P f
 ok : ∀ (σ : Nat → Option Nat) (w : World) (A : Nat → Prop) (vs : List Value),(hp = true → Rcv A w) → (∀ n,A n → n < w.heap.size) →
  (∀ b gs ty,bl[b]? = some (gs,ty) → ∃ n us,σ b = some n ∧ A n ∧ w.heap[n]? = some (.cells us.toArray ty (0,0)) ∧ okg gs us w A) → (∀ b,bl.length ≤ b → σ b = none) → oka σ args vs w A →
  Calls P f vs.toArray w fun r w' => ∃ v,r = .returned v ∧ res.R v w' A ∧ Below w.heap.size w w'
section
variable {P : Program} {hp : Bool} {fi : FuncId} {bl : List (List GF × TypeId)} {a : List FA} {r s : FV} {c : Prop} [Decidable c]
theorem SpecM.it (h : c) (k : SpecM P hp fi bl a r) : SpecM P hp fi bl a (if c then r else s) := by rw [if_pos h]; exact k
theorem SpecM.ie (h : ¬ c) (k : SpecM P hp fi bl a s) : SpecM P hp fi bl a (if c then r else s) := by rw [if_neg h]; exact k
theorem SpecM.t (k : SpecM P hp fi bl a (if c then r else s)) (h : c) : SpecM P hp fi bl a r := by rw [if_pos h] at k; exact k
theorem SpecM.f (k : SpecM P hp fi bl a (if c then r else s)) (h : ¬ c) : SpecM P hp fi bl a s := by rw [if_neg h] at k; exact k
end
def AR.la (L : List GF) : AR → Option FA
 | .c (.own b o) => some (.own b o)
 | .c (.sl b o n k) => some (.sl b o n k)
 | x => match x.lk L with | some g => some (.f g) | none => none
def arsL (L : List GF) : List AR → Option (List FA)
 | [] => some []
 | x :: l => match x.la L,arsL L l with | some v,some vs => some (v :: vs) | _,_ => none
def absK (L : List GF) : List AB → Option (List (List GF × TypeId))
 | [] => some []
 | x :: l => match acsK L x.cells,absK L l with | some v,some vs => some ((v,x.ty) :: vs) | _,_ => none
section
variable {L : List GF} {σ : Nat → Option Nat} {w : World} {A : Nat → Prop}
theorem AR.la_ok {x : AR} {g : FA} {v : Value} (h : x.la L = some g) : x.ok (gT L) σ v w A ↔ g.R σ v w A := by
 unfold AR.la at h
 split at h
 ·cases h; exact Iff.rfl
 ·cases h; exact Iff.rfl
 ·split at h
  ·rename_i g' h1; cases h; exact AR.lk_ok h1
  ·cases h
theorem arsL_ok : ∀ {l : List AR} {gs : List FA} {vs : List Value},arsL L l = some gs → (okr (gT L) σ l vs w A ↔ oka σ gs vs w A)
 | [],gs,vs,h => by cases h; cases vs <;> exact Iff.rfl
 | x :: l,gs,vs,h => by
  unfold arsL at h
  split at h
  ·rename_i u r h1 h2
   cases h
   cases vs with
   | nil => exact Iff.rfl
   | cons v vs => exact and_congr (AR.la_ok h1) (arsL_ok h2)
  ·cases h
theorem absK_get : ∀ {l : List AB} {bl : List (List GF × TypeId)},absK L l = some bl → l.length = bl.length ∧ ∀ (b : Nat) (ab : AB),l[b]? = some ab → ∃ gs,bl[b]? = some (gs,ab.ty) ∧ acsK L ab.cells = some gs
 | [],bl,h => by cases h; exact ⟨rfl,fun b ab h => by simp at h⟩
 | x :: l,bl,h => by
  unfold absK at h
  split at h
  ·rename_i u r h1 h2
   cases h
   obtain ⟨e,k⟩ := absK_get h2
   refine ⟨by simp [e],fun b ab hb => ?_⟩
   cases b with
   | zero => simp only [List.getElem?_cons_zero,Option.some.injEq] at hb; subst hb; exact ⟨u,by simp,h1⟩
   | succ b => simp only [List.getElem?_cons_succ] at hb ⊢; exact k b ab hb
  ·cases h
end
section
variable {P : Program} {L : List GF}
theorem ev_sm {hp : Bool} {tys : List (TypeId × TyI)} (ht : ∀ p ∈ tys,p.2.good P p.1 = true) (hm : P.follows .mixedOrders = true) (C : List (GC P L hp)) (B : List (GB P L)) (O : List (GO P L)) {f : FuncId} {fn : Func} (hf : P.funcs[f]? = some fn) (ent : Enters P f) (fuel : Nat) (abs : List AB) (args : List AR) (res : AV)
  {bl : List (List GF × TypeId)} {fa : List FA} {fr : FV} (hev : evL (gcx tys hp L C B O) fn fuel abs args res = true := by kernel_rfl) (hb : absK L abs = some bl := by kernel_rfl) (ha : arsL L args = some fa := by kernel_rfl) (hr : res.lk L = some fr := by kernel_rfl) : SpecM P hp f bl fa fr :=
 ⟨ent,fun σ w A vs hR hA hbl hbey hu => by
  obtain ⟨hl,hg⟩ := absK_get hb
  have hnr : res.noown = true := by
   have := hev
   unfold evL at this
   simp only [Bool.and_eq_true] at this
   exact this.1
  refine (ev_lent (gcx_ok ht C B O) hm hf fuel hev (fun k hk => by cases hk) (fun c _ x _ k hk => by cases hk) σ w A vs hR hA ((arsL_ok ha).2 hu) (fun b ab h => ?_) (fun b h => hbey b (by omega))).mono fun r w' ⟨v,h1,h2,h3⟩ => ⟨v,h1,(AV.lk_ok hr).1 h2,h3⟩
  obtain ⟨gs,h1,h2⟩ := hg b ab h
  obtain ⟨n,us,k1,k2,k3,k4⟩ := hbl b gs ab.ty h1
  exact ⟨n,us,k1,k2,k3,(acsK_ok h2).2 k4⟩⟩
def gsm {hp' hp : Bool} {f : FuncId} {bl : List (List GF × TypeId)} {fa : List FA} {fr : FV} (h : SpecM P hp' f bl fa fr) (bs : List Nat) (abs : List AB) (args : List AR) (res : AV)
  (hb : absK L abs = some bl := by kernel_rfl) (ha : arsL L args = some fa := by kernel_rfl) (hr : res.lk L = some fr := by kernel_rfl) (hc : (bs.length == abs.length && args.all (lowR bs.length) && abs.all (fun ab => ab.cells.all (lowC bs.length)) && res.noown && (!hp' || hp)) = true := by kernel_rfl) : GC P L hp :=
 ⟨{ f,args := args.map (rnR bs),res,needs := bs.zip (abs.map (rnB bs)) },h.ent,fun σ w A us hR hA hu hn => by
  simp only [Bool.and_eq_true,beq_iff_eq] at hc
  obtain ⟨⟨⟨⟨hl,hla⟩,hlb⟩,hnr⟩,hh⟩ := hc
  obtain ⟨hlen,hg⟩ := absK_get hb
  let σ' : Nat → Option Nat := fun k => if k < bs.length then σ (bs.getD k 0) else none
  have hσ : ∀ k,k < bs.length → σ' k = σ (bs.getD k 0) := fun k h => by simp only [σ']; rw [if_pos h]
  refine (h.ok σ' w A us (fun e => hR (by subst e; simpa using hh)) hA (fun b gs ty hb' => ?_) (fun k hk => by simp only [σ']; rw [if_neg (by omega)]) ((arsL_ok ha).1 (rnRs_ok hσ hla hu))).mono fun r w' ⟨v,h1,h2,h3⟩ => ⟨v,h1,AV.ok_noown hnr ((AV.lk_ok (σ := σ') hr).2 h2),h3⟩
  have hlt : b < abs.length := by rw [hlen]; exact (List.getElem?_eq_some_iff.1 hb').1
  obtain ⟨ab,hab⟩ : ∃ ab,abs[b]? = some ab := ⟨_,List.getElem?_eq_getElem hlt⟩
  obtain ⟨gs',h1,h2⟩ := hg b ab hab
  rw [hb'] at h1; cases h1
  obtain ⟨n,vs,k1,k2,k3,k4⟩ := needs_get hl hn b ab hab
  exact ⟨n,vs,(hσ b (by omega)).trans k1,k2,k3,(acsK_ok h2).1 (rnCs_ok hσ (List.all_eq_true.1 hlb ab (List.mem_of_getElem? hab)) k4)⟩⟩
end
end Tr
