/- Laws for the walk. -/
import Derived.Test.YteljkhfbgliokaaGreatZzz
import Derived.Test.YteljkhfbgliokaaGreatZac
import Derived.WalkKit
import Derived.Laws.Rows
set_option linter.unusedVariables false
namespace Tr
open Go Go.RowKit
def Al (A0 : Nat → Prop) (σ : Nat → Option Nat) (bs : List BK) : Nat → Prop := fun n => A0 n ∨ ∃ b ab,bs[b]? = some (.live ab) ∧ σ b = some n
structure Rel (T : Nat → Fact) (cx : Cx) (A0 : Nat → Prop) (w0 : World) (σ : Nat → Option Nat) (s : AS) (a : Act) (w : World) : Prop where
 size : a.tmps.size = s.tmps.length
 slots : ∀ i (av : AV),s.tmps[i]? = some av → av.ok T σ (a.tmps.getD i undef) w (Al A0 σ s.blocks)
 defers : a.defers = []
 blocks : ∀ b ab,s.blocks[b]? = some (.live ab) → ∃ n vs,σ b = some n ∧ w0.heap.size ≤ n ∧ w.heap[n]? = some (.cells vs.toArray ab.ty (0,0)) ∧ oks T σ ab.cells vs w (Al A0 σ s.blocks) ∧ okCells cx ab.cells = true
 lent : ∀ b ab,s.blocks[b]? = some (.lent ab) → ∃ n vs,σ b = some n ∧ A0 n ∧ w0.heap[n]? = some (.cells vs.toArray ab.ty (0,0)) ∧ oks T σ ab.cells vs w (Al A0 σ s.blocks)
 inj : ∀ b c n ab ac,s.blocks[b]? = some (.live ab) → s.blocks[c]? = some (.live ac) → σ b = some n → σ c = some n → b = c
 unborn : ∀ b,s.blocks[b]? = some .unborn → σ b = none
 beyond : ∀ b,s.blocks.length ≤ b → σ b = none
 below : Below w0.heap.size w0 w
 rcv : cx.hp = true → Rcv A0 w0
 low : ∀ n,A0 n → n < w0.heap.size
section
variable {T : Nat → Fact} {cx : Cx} {A0 : Nat → Prop} {w0 : World} {σ σ' : Nat → Option Nat} {s : AS} {a : Act} {w w' : World} {P : Program}
theorem Rel.slot (R : Rel T cx A0 w0 σ s a w) (t : Nat) : (s.tmps.getD t .undf).ok T σ (a.tmps.getD t undef) w (Al A0 σ s.blocks) := by
 cases h : s.tmps[t]? with
 | some av =>
  have : s.tmps.getD t .undf = av := by simp [List.getD,h]
  rw [this]; exact R.slots t av h
 | none =>
  have h1 : s.tmps.getD t .undf = .undf := by simp [List.getD,h]
  have h2 : a.tmps.getD t undef = undef := by
   have : a.tmps[t]? = none := by
    rw [List.getElem?_eq_none_iff] at h
    exact Array.getElem?_eq_none (by rw [R.size]; exact h)
   simp [this]
  rw [h1,h2]; rfl
theorem Rel.operand (R : Rel T cx A0 w0 σ s a w) {sl : Nat → AV} (hsl : ∀ t,sl t = .junk ∨ sl t = s.tmps.getD t .undf) (x : Operand) : (opv sl x).ok T σ (a.eval x) w (Al A0 σ s.blocks) := by
 cases x with
 | tmp t =>
  show (sl t).ok T σ (a.tmps.getD t undef) w _
  rcases hsl t with h | h
  ·rw [h]; trivial
  ·rw [h]; exact R.slot t
 | const v =>
  show (match LV.of v with | some l => AV.r (.c (.lit l)) | none => .junk).ok T σ v w _
  cases h : LV.of v with
  | some l => exact (LV.of_val h).symm
  | none => trivial
 | global g => trivial
 | func f => trivial
theorem AV.ar_ok {x : AV} {y : AR} (h : x.ar = some y) {v : Value} {A : Nat → Prop} (hx : x.ok T σ v w A) : y.ok T σ v w A := by
 cases x <;> simp [AV.ar] at h
 subst h; exact hx
theorem AV.bool_ok {x : AV} {b : Bool} (h : x.bool = some b) {v : Value} {A : Nat → Prop} (hx : x.ok T σ v w A) : v = .bool b := by
 unfold AV.bool at h
 split at h
 ·cases h; exact hx
 ·cases h
theorem AV.own_ok {x : AV} {b o : Nat} (h : x.own = some (b,o)) {v : Value} {A : Nat → Prop} (hx : x.ok T σ v w A) : ∃ n,σ b = some n ∧ v = .pointer (some ⟨n,o,none⟩) := by
 unfold AV.own at h
 split at h
 ·cases h; exact hx
 ·cases h
theorem Act.put_tmps (a : Act) (d : Option Tmp) (v : Value) : (a.put d v).tmps = match d with | some d => a.tmps.setIfInBounds d v | none => a.tmps := by cases d <;> rfl
theorem Act.put_defers' (a : Act) (d : Option Tmp) (v : Value) : (a.put d v).defers = a.defers := by cases d <;> rfl
theorem slots_put (hsz : a.tmps.size = s.tmps.length) {A A' : Nat → Prop} (hk : ∀ i (av : AV),s.tmps[i]? = some av → av.ok T σ' (a.tmps.getD i undef) w' A') {d : Option Nat} {av : AV} {v : Value} (hv : av.ok T σ' v w' A') (wr : Option (Nat × BK)) :
  (a.put d v).tmps.size = (s.put d ⟨av,wr⟩).tmps.length ∧ ∀ i (x : AV),(s.put d ⟨av,wr⟩).tmps[i]? = some x → x.ok T σ' ((a.put d v).tmps.getD i undef) w' A' := by
 cases d with
 | none => exact ⟨hsz,hk⟩
 | some d =>
  refine ⟨by simp [Act.put,AS.put,hsz],fun i x hx => ?_⟩
  simp only [AS.put,List.getElem?_set] at hx
  simp only [Act.put]
  split at hx
  ·rename_i e
   subst e
   split at hx
   ·rename_i hlt
    cases hx
    have : (a.tmps.setIfInBounds d v).getD d undef = v := by simp [hsz,hlt]
    rw [this]; exact hv
   ·cases hx
  ·rename_i e
   have : (a.tmps.setIfInBounds d v).getD i undef = a.tmps.getD i undef := by
    simp [Array.getElem?_setIfInBounds_ne e]
   rw [this]; exact hk i x hx
theorem Rel.val (R : Rel T cx A0 w0 σ s a w) {av : AV} {v : Value} (hv : av.ok T σ v w (Al A0 σ s.blocks)) (d : Option Nat) : Rel T cx A0 w0 σ (s.put d ⟨av,none⟩) (a.put d v) w := by
 obtain ⟨h1,h2⟩ := slots_put R.size (A := Al A0 σ s.blocks) R.slots hv (d := d) none
 exact ⟨h1,h2,by rw [Act.put_defers']; exact R.defers,R.blocks,R.lent,R.inj,R.unborn,R.beyond,R.below,R.rcv,R.low⟩
theorem Rel.world {ints : Nat → Bool} (ht : TOk T ints) (R : Rel T cx A0 w0 σ s a w) (hb : Below w.heap.size w w') : Rel T cx A0 w0 σ s a w' := by
 have hk : Kp w w' (Al A0 σ s.blocks) (Al A0 σ s.blocks) := ⟨hb.size,fun b h1 h2 => ⟨hb.block b h1,h2⟩⟩
 refine ⟨R.size,fun i av h => (R.slots i av h).keep ht (Sub.refl _) hk,R.defers,fun b ab h => ?_,fun b ab h => ?_,R.inj,R.unborn,R.beyond,R.below.trans (hb.mono R.below.size),R.rcv,R.low⟩
 ·obtain ⟨n,vs,h1,h2,h3,h4,h5⟩ := R.blocks b ab h
  exact ⟨n,vs,h1,h2,(hb.block n (Array.getElem?_eq_some_iff.1 h3).1).trans h3,h4.keep ht (Sub.refl _) hk,h5⟩
 ·obtain ⟨n,vs,h1,h2,h3,h4⟩ := R.lent b ab h
  exact ⟨n,vs,h1,h2,h3,h4.keep ht (Sub.refl _) hk⟩
theorem Rel.rcvs {ints : Nat → Bool} (ht : TOk T cx.ints) (R : Rel T cx A0 w0 σ s a w) (hp : cx.hp = true) : Rcv (Al A0 σ s.blocks) w := by
 intro n hn
 rcases hn with hn | ⟨b,ab,h1,h2⟩
 ·obtain ⟨z,h3,h4⟩ := R.rcv hp n hn
  exact ⟨z,(R.below.block n (R.low n hn)).trans h3,h4⟩
 ·obtain ⟨n',vs,h3,h4,h5,h6,h7⟩ := R.blocks b ab h1
  rw [h2] at h3; cases h3
  refine ⟨_,h5,fun cs T' fr e i k x => ?_⟩
  cases e
  intro hi
  have hm : Value.int k x ∈ vs := by
   simp only [List.getElem?_toArray] at hi
   exact List.mem_of_getElem? hi
  have h8 : ab.cells.all (AC.noint cx.ints) = true := by simpa [okCells,hp] using h7
  exact oks.noint ht h6 h8 _ hm k x rfl
theorem Rel.low' (R : Rel T cx A0 w0 σ s a w) : ∀ n,Al A0 σ s.blocks n → n < w.heap.size := by
 rintro n (h | ⟨b,ab,h1,h2⟩)
 ·exact Nat.lt_of_lt_of_le (R.low n h) R.below.size
 ·obtain ⟨m,vs,h3,h4,h5,_⟩ := R.blocks b ab h1
  rw [h2] at h3; cases h3
  exact (Array.getElem?_eq_some_iff.1 h5).1
theorem Rel.fresh (ht : TOk T cx.ints) (R : Rel T cx A0 w0 σ s a w) {b : Nat} (hu : s.blocks[b]? = some .unborn) {cs : List AC} {vs : List Value} {ty : TypeId} (hc : oks T σ cs vs w (Al A0 σ s.blocks)) (ho : okCells cx cs = true) (d : Option Nat) :
  ∃ σ',σ' b = some w.heap.size ∧ Rel T cx A0 w0 σ' (s.put d ⟨.r (.c (.own b 0)),some (b,.live ⟨cs,ty⟩)⟩) (a.put d (.pointer (some ⟨w.heap.size,0,none⟩))) (w.alloc (.cells vs.toArray ty)) := by
 have hub := R.unborn b hu
 let σ' : Nat → Option Nat := fun x => if x = b then some w.heap.size else σ x
 have hσb : σ' b = some w.heap.size := by simp [σ']
 have hσ : ∀ x,x ≠ b → σ' x = σ x := fun x h => by simp [σ',h]
 have hs : Sub σ σ' := fun x n h => by
  have : x ≠ b := fun e => by subst e; rw [hub] at h; cases h
  rw [hσ x this]; exact h
 have hlen : b < s.blocks.length := (List.getElem?_eq_some_iff.1 hu).1
 have hbs : ∀ x,(s.blocks.set b (.live ⟨cs,ty⟩))[x]? = if x = b then some (.live ⟨cs,ty⟩) else s.blocks[x]? := fun x => by
  rw [List.getElem?_set]
  by_cases e : b = x
  ·subst e; simp [hlen]
  ·simp [e,Ne.symm e]
 have hsz : (w.alloc (.cells vs.toArray ty)).heap.size = w.heap.size + 1 := by simp
 have hold : ∀ n,n < w.heap.size → (w.alloc (.cells vs.toArray ty)).heap[n]? = w.heap[n]? := fun n h => Below.heap_alloc w _ n h
 have hk : Kp w (w.alloc (.cells vs.toArray ty)) (Al A0 σ s.blocks) (Al A0 σ' (s.blocks.set b (.live ⟨cs,ty⟩))) := by
  refine ⟨by rw [hsz]; omega,fun n h1 h2 => ⟨hold n h1,?_⟩⟩
  rintro (h3 | ⟨x,ab,h3,h4⟩)
  ·exact h2 (.inl h3)
  ·rw [hbs] at h3
   by_cases e : x = b
   ·subst e; rw [hσb] at h4; cases h4; omega
   ·rw [if_neg e] at h3; rw [hσ x e] at h4; exact h2 (.inr ⟨x,ab,h3,h4⟩)
 refine ⟨σ',hσb,?_⟩
 obtain ⟨h1,h2⟩ := slots_put (σ' := σ') (w' := w.alloc (.cells vs.toArray ty)) (A' := Al A0 σ' (s.blocks.set b (.live ⟨cs,ty⟩))) R.size (A := Al A0 σ s.blocks) (fun i av h => (R.slots i av h).keep ht hs hk) (d := d)
  (av := .r (.c (.own b 0))) (v := .pointer (some ⟨w.heap.size,0,none⟩)) ⟨_,hσb,rfl⟩ (some (b,.live ⟨cs,ty⟩))
 refine ⟨h1,h2,by rw [Act.put_defers']; exact R.defers,fun x ab h => ?_,fun x ab h => ?_,fun x y n ab ac hx hy h3 h4 => ?_,fun x h => ?_,fun x h => ?_,R.below.alloc R.below.size _,R.rcv,R.low⟩
 ·have h' : (s.blocks.set b (.live ⟨cs,ty⟩))[x]? = some (.live ab) := h
  rw [hbs] at h'
  by_cases e : x = b
  ·subst e
   rw [if_pos rfl] at h'
   cases h'
   exact ⟨_,vs,hσb,R.below.size,heap_alloc_new w _,hc.keep ht hs hk,ho⟩
  ·rw [if_neg e] at h'
   obtain ⟨n,us,g1,g2,g3,g4,g5⟩ := R.blocks x ab h'
   exact ⟨n,us,by rw [hσ x e]; exact g1,g2,(hold n (Array.getElem?_eq_some_iff.1 g3).1).trans g3,g4.keep ht hs hk,g5⟩
 ·have h' : (s.blocks.set b (.live ⟨cs,ty⟩))[x]? = some (.lent ab) := h
  rw [hbs] at h'
  by_cases e : x = b
  ·rw [if_pos e] at h'; cases h'
  ·rw [if_neg e] at h'
   obtain ⟨n,us,g1,g2,g3,g4⟩ := R.lent x ab h'
   exact ⟨n,us,by rw [hσ x e]; exact g1,g2,g3,g4.keep ht hs hk⟩
 ·have hx' : (s.blocks.set b (.live ⟨cs,ty⟩))[x]? = some (.live ab) := hx
  have hy' : (s.blocks.set b (.live ⟨cs,ty⟩))[y]? = some (.live ac) := hy
  rw [hbs] at hx' hy'
  by_cases ex : x = b
  ·by_cases ey : y = b
   ·rw [ex,ey]
   ·exfalso
    rw [if_neg ey] at hy'
    subst ex
    rw [hσb] at h3; cases h3
    obtain ⟨m,us,g1,g2,g3,_⟩ := R.blocks y ac hy'
    rw [hσ y ey,g1] at h4; cases h4
    exact absurd (Array.getElem?_eq_some_iff.1 g3).1 (by omega)
  ·by_cases ey : y = b
   ·exfalso
    rw [if_neg ex] at hx'
    subst ey
    rw [hσb] at h4; cases h4
    obtain ⟨m,us,g1,g2,g3,_⟩ := R.blocks x ab hx'
    rw [hσ x ex,g1] at h3; cases h3
    exact absurd (Array.getElem?_eq_some_iff.1 g3).1 (by omega)
   ·rw [if_neg ex] at hx'; rw [if_neg ey] at hy'
    rw [hσ x ex] at h3; rw [hσ y ey] at h4
    exact R.inj x y n ab ac hx' hy' h3 h4
 ·have h' : (s.blocks.set b (.live ⟨cs,ty⟩))[x]? = some .unborn := h
  rw [hbs] at h'
  by_cases e : x = b
  ·rw [if_pos e] at h'; cases h'
  ·rw [if_neg e] at h'; rw [hσ x e]; exact R.unborn x h'
 ·have h' : (s.blocks.set b (.live ⟨cs,ty⟩)).length ≤ x := h
  rw [List.length_set] at h'
  rw [hσ x (by omega)]; exact R.beyond x h'
theorem Al_set (b : Nat) (ab ab' : AB) (hb : s.blocks[b]? = some (.live ab)) : Al A0 σ (s.blocks.set b (.live ab')) = Al A0 σ s.blocks := by
 have hlen : b < s.blocks.length := (List.getElem?_eq_some_iff.1 hb).1
 funext n
 unfold Al
 refine propext (or_congr Iff.rfl ⟨?_,?_⟩)
 ·rintro ⟨x,c,h1,h2⟩
  by_cases e : b = x
  ·subst e; exact ⟨b,ab,hb,h2⟩
  ·rw [List.getElem?_set,if_neg e] at h1; exact ⟨x,c,h1,h2⟩
 ·rintro ⟨x,c,h1,h2⟩
  by_cases e : b = x
  ·subst e; exact ⟨b,ab',by rw [List.getElem?_set]; simp [hlen],h2⟩
  ·exact ⟨x,c,by rw [List.getElem?_set,if_neg e]; exact h1,h2⟩
theorem Rel.write (ht : TOk T cx.ints) (R : Rel T cx A0 w0 σ s a w) {b n : Nat} {ab ab' : AB} (hb : s.blocks[b]? = some (.live ab)) (hn : σ b = some n) (hty : ab'.ty = ab.ty) {vs : List Value} (hc : oks T σ ab'.cells vs w (Al A0 σ s.blocks)) (ho : okCells cx ab'.cells = true)
  (hw : w'.heap[n]? = some (.cells vs.toArray ab.ty (0,0))) (hoth : ∀ k,k ≠ n → w'.heap[k]? = w.heap[k]?) (hsz : w'.heap.size = w.heap.size) (hbl : Below w0.heap.size w w') (d : Option Nat) :
  Rel T cx A0 w0 σ (s.put d ⟨.undf,some (b,.live ab')⟩) (a.put d undef) w' := by
 have hlen : b < s.blocks.length := (List.getElem?_eq_some_iff.1 hb).1
 have hAl := Al_set (A0 := A0) (σ := σ) b ab ab' hb
 have hk : Kp w w' (Al A0 σ s.blocks) (Al A0 σ s.blocks) := by
  refine ⟨by omega,fun k h1 h2 => ⟨hoth k fun e => ?_,h2⟩⟩
  subst e
  exact h2 (.inr ⟨b,ab,hb,hn⟩)
 obtain ⟨h1,h2⟩ := slots_put (σ' := σ) (w' := w') (A' := Al A0 σ s.blocks) R.size (A := Al A0 σ s.blocks) (fun i av h => (R.slots i av h).keep ht (Sub.refl _) hk) (d := d) (av := .undf) (v := undef) rfl (some (b,.live ab'))
 have hbs : ∀ x,(s.blocks.set b (.live ab'))[x]? = if x = b then some (.live ab') else s.blocks[x]? := fun x => by
  rw [List.getElem?_set]
  by_cases e : b = x
  ·subst e; simp [hlen]
  ·simp [e,Ne.symm e]
 have hlive : ∀ x (c : AB),(s.blocks.set b (BK.live ab'))[x]? = some (BK.live c) → ∃ c' : AB,s.blocks[x]? = some (BK.live c') := fun x c h => by
  rw [hbs] at h
  by_cases e : x = b
  ·subst e; exact ⟨ab,hb⟩
  ·rw [if_neg e] at h; exact ⟨c,h⟩
 refine ⟨h1,?_,by rw [Act.put_defers']; exact R.defers,fun x c h => ?_,fun x c h => ?_,fun x y m c e hx hy h3 h4 => ?_,fun x h => ?_,fun x h => ?_,R.below.trans hbl,R.rcv,R.low⟩
 ·show ∀ i (x : AV),_ → x.ok T σ _ w' (Al A0 σ (s.blocks.set b (.live ab')))
  rw [hAl]; exact h2
 ·show ∃ n vs,σ x = some n ∧ _ ∧ _ ∧ oks T σ c.cells vs w' (Al A0 σ (s.blocks.set b (.live ab'))) ∧ _
  rw [hAl]
  have h' : (s.blocks.set b (.live ab'))[x]? = some (.live c) := h
  rw [hbs] at h'
  by_cases e : x = b
  ·subst e
   rw [if_pos rfl] at h'
   cases h'
   obtain ⟨m,us,g1,g2,g3,g4,g5⟩ := R.blocks x ab hb
   rw [hn] at g1; cases g1
   exact ⟨n,vs,hn,g2,by rw [hty]; exact hw,hc.keep ht (Sub.refl _) hk,ho⟩
  ·rw [if_neg e] at h'
   obtain ⟨m,us,g1,g2,g3,g4,g5⟩ := R.blocks x c h'
   exact ⟨m,us,g1,g2,(hoth m fun e2 => e (R.inj x b n c ab h' hb (by rw [← e2]; exact g1) hn)).trans g3,g4.keep ht (Sub.refl _) hk,g5⟩
 ·show ∃ n vs,σ x = some n ∧ _ ∧ _ ∧ oks T σ c.cells vs w' (Al A0 σ (s.blocks.set b (.live ab')))
  rw [hAl]
  have h' : (s.blocks.set b (.live ab'))[x]? = some (.lent c) := h
  rw [hbs] at h'
  by_cases e : x = b
  ·rw [if_pos e] at h'; cases h'
  ·rw [if_neg e] at h'
   obtain ⟨m,us,g1,g2,g3,g4⟩ := R.lent x c h'
   exact ⟨m,us,g1,g2,g3,g4.keep ht (Sub.refl _) hk⟩
 ·obtain ⟨c',hc'⟩ := hlive x c hx
  obtain ⟨e',he'⟩ := hlive y e hy
  exact R.inj x y m c' e' hc' he' h3 h4
 ·have h' : (s.blocks.set b (.live ab'))[x]? = some .unborn := h
  rw [hbs] at h'
  by_cases e : x = b
  ·rw [if_pos e] at h'; cases h'
  ·rw [if_neg e] at h'; exact R.unborn x h'
 ·have h' : (s.blocks.set b (.live ab')).length ≤ x := h
  rw [List.length_set] at h'
  exact R.beyond x h'
theorem Rel.gave (ht : TOk T cx.ints) (R : Rel T cx A0 w0 σ s a w) {b n : Nat} {ab : AB} (hb : s.blocks[b]? = some (.live ab)) (hn : σ b = some n) (hm : Mod n w w') {av : AV} {v : Value} (hv : av.ok T σ v w' (fun x => Al A0 σ s.blocks x ∧ x ≠ n)) (d : Option Nat) :
  Rel T cx A0 w0 σ (s.put d ⟨av,some (b,.dead)⟩) (a.put d v) w' := by
 have hlen : b < s.blocks.length := (List.getElem?_eq_some_iff.1 hb).1
 obtain ⟨n',us,g1,gn,g3,g4,g5⟩ := R.blocks b ab hb
 rw [hn] at g1; cases g1
 have hbs : ∀ x,(s.blocks.set b BK.dead)[x]? = if x = b then some .dead else s.blocks[x]? := fun x => by
  rw [List.getElem?_set]
  by_cases e : b = x
  ·subst e; simp [hlen]
  ·simp [e,Ne.symm e]
 have hAl : Al A0 σ (s.blocks.set b BK.dead) = fun x => Al A0 σ s.blocks x ∧ x ≠ n := by
  funext x
  refine propext ⟨?_,?_⟩
  ·rintro (h | ⟨y,c,h1,h2⟩)
   ·exact ⟨.inl h,fun e => by have := R.low x h; omega⟩
   ·rw [hbs] at h1
    by_cases e : y = b
    ·rw [if_pos e] at h1; cases h1
    ·rw [if_neg e] at h1
     exact ⟨.inr ⟨y,c,h1,h2⟩,fun e2 => e (R.inj y b n c ab h1 hb (by rw [← e2]; exact h2) hn)⟩
  ·rintro ⟨h | ⟨y,c,h1,h2⟩,h3⟩
   ·exact .inl h
   ·refine .inr ⟨y,c,?_,h2⟩
    rw [hbs,if_neg fun e => ?_]
    ·exact h1
    ·subst e; rw [hn] at h2; cases h2; exact h3 rfl
 have hk : Kp w w' (Al A0 σ s.blocks) (Al A0 σ (s.blocks.set b BK.dead)) := by
  rw [hAl]
  refine ⟨hm.size,fun k h1 h2 => ⟨hm.block k h1 fun e => ?_,fun h => h2 h.1⟩⟩
  subst e; exact h2 (.inr ⟨b,ab,hb,hn⟩)
 rw [← hAl] at hv
 obtain ⟨h1,h2⟩ := slots_put (σ' := σ) (w' := w') (A' := Al A0 σ (s.blocks.set b BK.dead)) R.size (A := Al A0 σ s.blocks) (fun i av h => (R.slots i av h).keep ht (Sub.refl _) hk) (d := d) hv (some (b,BK.dead))
 have hlive : ∀ x (c : AB),(s.blocks.set b BK.dead)[x]? = some (.live c) → x ≠ b ∧ s.blocks[x]? = some (.live c) := fun x c h => by
  rw [hbs] at h
  by_cases e : x = b
  ·rw [if_pos e] at h; cases h
  ·rw [if_neg e] at h; exact ⟨e,h⟩
 refine ⟨h1,h2,by rw [Act.put_defers']; exact R.defers,fun x c h => ?_,fun x c h => ?_,fun x y m c e hx hy h3 h4 => ?_,fun x h => ?_,fun x h => ?_,?_,R.rcv,R.low⟩
 ·obtain ⟨e,h'⟩ := hlive x c h
  obtain ⟨m,us,g1,g2,g3,g4,g5⟩ := R.blocks x c h'
  exact ⟨m,us,g1,g2,(hm.block m (Array.getElem?_eq_some_iff.1 g3).1 fun e2 => e (R.inj x b n c ab h' hb (by rw [← e2]; exact g1) hn)).trans g3,g4.keep ht (Sub.refl _) hk,g5⟩
 ·have h' : (s.blocks.set b BK.dead)[x]? = some (.lent c) := h
  rw [hbs] at h'
  by_cases e : x = b
  ·rw [if_pos e] at h'; cases h'
  ·rw [if_neg e] at h'
   obtain ⟨m,us,g1,g2,g3,g4⟩ := R.lent x c h'
   exact ⟨m,us,g1,g2,g3,g4.keep ht (Sub.refl _) hk⟩
 ·exact R.inj x y m c e (hlive x c hx).2 (hlive y e hy).2 h3 h4
 ·have h' : (s.blocks.set b BK.dead)[x]? = some .unborn := h
  rw [hbs] at h'
  by_cases e : x = b
  ·rw [if_pos e] at h'; cases h'
  ·rw [if_neg e] at h'; exact R.unborn x h'
 ·have h' : (s.blocks.set b BK.dead).length ≤ x := h
  rw [List.length_set] at h'
  exact R.beyond x h'
 ·refine R.below.trans ⟨hm.os,hm.tape,hm.output,hm.size,fun k hk => hm.block k (by have := R.below.size; omega) (by omega)⟩
end
end Tr
namespace Tr
open Go
section
variable {P : Program}
theorem run_loadVar_part (w : World) (g off : Nat) (t ty : TypeId) (cs vs : Array Value) (fr : Nat × Nat) (d : TypeDesc) (hg : w.heap[g]? = some (.cells cs t fr))
  (hu : P.underlying ty = some d) (hd : (match d with | .struct _ | .array _ _ => true | _ => false) = true) (hi : (P.info? ty).map (·.size) = some vs.size)
  (hv : (cs.toList.drop off).take vs.size = vs.toList) :
  (loadVar ty ⟨g,off,none⟩).run P w = .ok (.agg vs) w := by
 have hl : (loadCells ⟨g,off,none⟩ vs.toList.length).run P w = .ok vs.toList.toArray w :=
  run_loadCells_list (P := P) w ⟨g,off,none⟩ vs.toList (fun j v hj => by
   have hadd : (⟨g,off,none⟩ : Addr).add j = ⟨g,off + j,none⟩ := by unfold Addr.add; split <;> simp_all
   rw [hadd,cell_of_row w g _ cs t fr hg]
   rw [← hv,List.getElem?_take] at hj
   split at hj
   ·rw [List.getElem?_drop] at hj
    simpa using hj
   ·cases hj)
 cases hq : P.info? ty with
 | none => simp [hq] at hi
 | some i =>
  have hs : i.size = vs.size := by simpa [hq] using hi
  have hagg : (isAgg ty).run P w = .ok true w := by
   unfold isAgg
   rw [Sem.run_bind,run_underlying hu w]
   cases d <;> simp_all
  simp only [Array.length_toList,Array.toArray_toList] at hl
  simp [loadVar,Sem.run_bind,hagg,Go.sizeOf,typeInfo,hq,hs,hl]
theorem exec_load_part {o : Oper} {a : Act} {w : World} (ty : TypeId) (x : Operand) (ho : o.op = .load ty x)
  (g off : Nat) (hx : a.eval x = .pointer (some ⟨g,off,none⟩)) (t : TypeId) (cs vs : Array Value) (fr : Nat × Nat) (d : TypeDesc) (hg : w.heap[g]? = some (.cells cs t fr))
  (hu : P.underlying ty = some d) (hd : (match d with | .struct _ | .array _ _ => true | _ => false) = true) (hi : (P.info? ty).map (·.size) = some vs.size)
  (hv : (cs.toList.drop off).take vs.size = vs.toList) : (execOp a.eval o).run P w = .ok (.value (.agg vs)) w := by
 unfold execOp
 simp only [ho,hx,Instr.loadAt,Instr.sureAddr,Sem.run_bind,Sem.run_pure,Result.andThen_ok,run_loadVar_part w g off t ty cs vs fr d hg hu hd hi hv]
theorem wpList_load_part {ops : Array Oper} {rest : List Oper} {o : Oper} {a : Act} {w : World} {Q : Exit → Act → World → Prop} (hgd : Region.wanted o (yielded ops a.tmps) = true) (ty : TypeId) (x : Operand) (ho : o.op = .load ty x)
  (g off : Nat) (hx : a.eval x = .pointer (some ⟨g,off,none⟩)) (t : TypeId) (cs vs : Array Value) (fr : Nat × Nat) (d : TypeDesc) (hg : w.heap[g]? = some (.cells cs t fr))
  (hu : P.underlying ty = some d) (hd : (match d with | .struct _ | .array _ _ => true | _ => false) = true) (hi : (P.info? ty).map (·.size) = some vs.size)
  (hv : (cs.toList.drop off).take vs.size = vs.toList)
  (h : wpList P ops Q rest (a.put o.dst (.agg vs)) w) : wpList P ops Q (o :: rest) a w :=
 wpList_step fun K hK => by
  rw [if_pos hgd]
  unfold Oper.wp
  rw [exec_load_part ty x ho g off hx t cs vs fr d hg hu hd hi hv]
  exact hK _ _ h
end
end Tr
namespace Tr
open Go Go.RowKit
def needsP (T : Nat → Fact) (σ : Nat → Option Nat) (w : World) (A : Nat → Prop) : List (Nat × AB) → Prop
 | [] => True
 | (b,ab) :: l => (∃ n vs,σ b = some n ∧ A n ∧ w.heap[n]? = some (.cells vs.toArray ab.ty (0,0)) ∧ oks T σ ab.cells vs w A) ∧ needsP T σ w A l
def CS.Ok (P : Program) (T : Nat → Fact) (hp : Bool) (e : CS) : Prop :=
 ∀ (σ : Nat → Option Nat) (w : World) (A : Nat → Prop) (vs : List Value),(hp = true → Rcv A w) → (∀ n,A n → n < w.heap.size) → okr T σ e.args vs w A → needsP T σ w A e.needs →
  match e.give with
  | none => Calls P e.f vs.toArray w fun r w' => ∃ v,r = .returned v ∧ e.res.ok T σ v w' A ∧ Below w.heap.size w w'
  | some g => ∀ n,σ g = some n → A n → Calls P e.f vs.toArray w fun r w' => ∃ v,r = .returned v ∧ e.res.ok T σ v w' (fun x => A x ∧ x ≠ n) ∧ Mod n w w'
def Enters (P : Program) (f : FuncId) : Prop := ∀ args w,(callFunc f args).run P w = .ok (.enter f args) w
def BS.Ok (P : Program) (T : Nat → Fact) (e : BS) : Prop :=
 ∀ (σ : Nat → Option Nat) (w : World) (A : Nat → Prop) (vx vy : Value) (xo yo : Operand),e.x.ok T σ vx w A → e.y.ok T σ vy w A →
  ∃ v,(do eqGuard e.op e.t xo yo vx vy; binOp e.op e.t vx vy : Sem Value).run P w = .ok v w ∧ e.res.ok T σ v w A
def OS.Ok (P : Program) (T : Nat → Fact) (e : OS) : Prop :=
 ∀ o : Oper,e.same o = true → ∀ (σ : Nat → Option Nat) (ρ : Operand → Value) (w : World) (A : Nat → Prop),okr T σ e.args (o.op.operands.toList.map ρ) w A →
  ∃ v,(execOp ρ o).run P w = .ok (.value v) w ∧ e.res.ok T σ v w A
structure CxOk (P : Program) (T : Nat → Fact) (cx : Cx) : Prop where
 table : TOk T cx.ints
 tys : ∀ p ∈ cx.tys,p.2.good P p.1 = true
 calls : ∀ e ∈ cx.calls,e.Ok P T cx.hp
 enters : ∀ e ∈ cx.calls,Enters P e.f
 bins : ∀ e ∈ cx.bins,e.Ok P T
 others : ∀ e ∈ cx.others,e.Ok P T
section
variable {T : Nat → Fact} {cx : Cx} {A0 : Nat → Prop} {w0 : World} {σ : Nat → Option Nat} {s : AS} {a : Act} {w : World} {P : Program} {Q : Exit → Act → World → Prop}
theorem wp_value {o : Oper} {K : Act → World → Prop} {v : Value} {w' : World} (h : (execOp a.eval o).run P w = .ok (.value v) w') (hK : K (a.put o.dst v) w') : o.wp P a w K Q := by
 unfold Oper.wp; rw [h]; exact hK
theorem wp_skipped {o : Oper} {K : Act → World → Prop} {w' : World} (h : (execOp a.eval o).run P w = .ok .skip w') (hK : K (a.put o.dst undef) w') : o.wp P a w K Q := by
 unfold Oper.wp; rw [h]; exact hK
theorem lookT_mem {t : TypeId} {i : TyI} : ∀ {l : List (TypeId × TyI)},lookT t l = some i → (t,i) ∈ l
 | [],h => by cases h
 | (u,j) :: l,h => by
  unfold lookT at h
  split at h
  ·rename_i e
   cases h
   simp at e; subst e
   exact List.mem_cons_self
  ·exact List.mem_cons_of_mem _ (lookT_mem h)
theorem good_spec {t : TypeId} {i : TyI} (h : i.good P t = true) : ∃ ti z d,P.info? t = some ti ∧ P.underlying t = some d ∧ ti.size = i.size ∧ ti.zero = some z ∧ z.cells.toList = i.zero.map LV.val ∧ isAggD d = i.agg ∧
    (match d with
     | .struct fs => fieldsOk P fs.toList i.fields && i.arr == none
     | .array n e => i.fields.isEmpty && (match i.arr,(P.info? e).map (·.size) with | some (m,k,e'),some s => m == n && k == s && e' == e | _,_ => false)
     | .slice e => i.fields.isEmpty && (match i.arr,(P.info? e).map (·.size) with | some (_,k,e'),some s => k == s && e' == e | _,_ => false)
     | _ => i.fields.isEmpty && i.arr == none) = true := by
  unfold TyI.good at h
  split at h
  · rename_i ti d h1 h2
    simp only [Bool.and_eq_true] at h
    obtain ⟨⟨⟨h3,h4⟩,h5⟩,h6⟩ := h
    cases hz : ti.zero with
    | none => simp [hz] at h4
    | some z =>
      simp only [hz] at h4
      exact ⟨ti,z,d,h1,h2,by simpa using h3,hz,lvsOk_spec h4,by simpa using h5,h6⟩
  · cases h
theorem oks_lits {w : World} {A : Nat → Prop} : ∀ l : List LV,oks T σ (l.map AC.lit) (l.map LV.val) w A
 | [] => trivial
 | _ :: l => ⟨rfl,oks_lits l⟩
theorem good_slice {t : TypeId} {i : TyI} (h : i.good P t = true) (ha : i.agg = false) {m es e : Nat} (hr : i.arr = some (m,es,e)) : P.underlying t = some (.slice e) ∧ (P.info? e).map (·.size) = some es := by
 obtain ⟨ti,z,d,g1,g2,g3,g4,g5,g6,g7⟩ := good_spec h
 rw [ha] at g6
 cases d <;> simp only [isAggD] at g6 <;> try (cases g6; done)
 case slice e0 =>
  simp only [Bool.and_eq_true,hr] at g7
  cases hi : P.info? e0 with
  | none => simp [hi] at g7
  | some ie =>
   simp [hi] at g7
   obtain ⟨_,h1,h2⟩ := g7
   subst h2
   exact ⟨g2,by rw [hi,h1]; rfl⟩
 all_goals (simp [hr] at g7)
theorem good_array {t : TypeId} {i : TyI} (h : i.good P t = true) (ha : i.agg = true) {m es e : Nat} (hr : i.arr = some (m,es,e)) : P.underlying t = some (.array m e) ∧ (P.info? e).map (·.size) = some es := by
 obtain ⟨ti,z,d,g1,g2,g3,g4,g5,g6,g7⟩ := good_spec h
 rw [ha] at g6
 cases d <;> simp only [isAggD] at g6 <;> try (cases g6; done)
 case array n e0 =>
  simp only [Bool.and_eq_true,hr] at g7
  cases hi : P.info? e0 with
  | none => simp [hi] at g7
  | some ie =>
   simp [hi] at g7
   obtain ⟨_,⟨h0,h1⟩,h2⟩ := g7
   subst h2; subst h0
   exact ⟨g2,by rw [hi,h1]; rfl⟩
 all_goals (simp [hr] at g7)
theorem oks_zeros {w : World} {A : Nat → Prop} {l : List LV} {cs : Array Value} (hc : cs.toList = l.map LV.val) (hl : 0 < l.length) (n : Nat) : oks T σ (zeros l n) ((Array.range n).map (cs[· % cs.size]!)).toList w A := by
 have hsz : cs.size = l.length := by rw [← Array.length_toList,hc]; simp
 have key : ∀ ks : List Nat,oks T σ (ks.map fun k => AC.lit (l.getD (k % l.length) .str0)) (ks.map fun k => cs[k % cs.size]!) w A := by
  intro ks
  induction ks with
  | nil => trivial
  | cons k ks ih =>
   refine ⟨?_,ih⟩
   show cs[k % cs.size]! = (l.getD (k % l.length) .str0).val
   have h1 : k % l.length < l.length := Nat.mod_lt _ hl
   rw [hsz,getElem!_pos cs (k % l.length) (by omega)]
   have h2 : cs.toList[k % l.length]? = (l.map LV.val)[k % l.length]? := by rw [hc]
   simp [List.getD,h1,hsz] at h2 ⊢
   exact h2
 have e : ((Array.range n).map (cs[· % cs.size]!)).toList = (List.range n).map fun k => cs[k % cs.size]! := by simp
 rw [e]
 exact key _
theorem fieldsOk_places : ∀ {fs : List Field} {l : List (Nat × Nat × Bool)},fieldsOk P fs l = true → fs.mapM (fun f => (P.info? f.type).map fun i => (f.offset,i.size)) = some (l.map fun p => (p.1,p.2.1))
 | [],[],_ => rfl
 | f :: fs,(o,n,g) :: l,h => by
  simp only [fieldsOk,Bool.and_eq_true,beq_iff_eq] at h
  obtain ⟨⟨⟨h1,h2⟩,h3⟩,h4⟩ := h
  rw [List.mapM_cons,fieldsOk_places h4]
  cases hi : P.info? f.type with
  | none => simp [hi] at h2
  | some i => simp [hi] at h2; subst h1; simp [h2]
 | [],_ :: _,h => by cases h
 | _ :: _,[],h => by cases h
theorem fieldsOk_get : ∀ {fs : List Field} {l : List (Nat × Nat × Bool)},fieldsOk P fs l = true → ∀ {k : Nat} {o n : Nat} {g : Bool},l[k]? = some (o,n,g) → ∃ f i d,fs[k]? = some f ∧ f.offset = o ∧ P.info? f.type = some i ∧ i.size = n ∧ P.underlying f.type = some d ∧ isAggD d = g
 | [],[],_,_,_,_,_,h => by simp at h
 | f :: fs,(o,n,g) :: l,h,k,o',n',g',hk => by
  simp only [fieldsOk,Bool.and_eq_true,beq_iff_eq] at h
  obtain ⟨⟨⟨h1,h2⟩,h3⟩,h4⟩ := h
  cases k with
  | zero =>
   simp at hk
   obtain ⟨rfl,rfl,rfl⟩ := hk
   cases hi : P.info? f.type with
   | none => simp [hi] at h2
   | some i =>
    cases hu : P.underlying f.type with
    | none => simp [hu] at h3
    | some d => simp [hi] at h2; simp [hu] at h3; exact ⟨f,i,d,rfl,h1,hi,h2,hu,h3⟩
  | succ k =>
   simp only [List.getElem?_cons_succ] at hk ⊢
   exact fieldsOk_get h4 hk
 | [],_ :: _,h,_,_,_,_,_ => by cases h
 | _ :: _,[],h,_,_,_,_,_ => by cases h
theorem fold_over (off : Nat) : ∀ (l : List Value) (k : Nat) (cs : Array Value),off + k + l.length ≤ cs.size →
  ((l.zipIdx k).foldl (fun (cs : Array Value) (p : Value × Nat) => cs.setIfInBounds (off + p.2) p.1) cs).toList = cs.toList.take (off + k) ++ l ++ cs.toList.drop (off + k + l.length)
 | [],k,cs,h => by simp
 | v :: l,k,cs,h => by
  simp only [List.length_cons] at h
  simp only [List.zipIdx_cons,List.foldl_cons]
  rw [fold_over off l (k + 1) _ (by simp; omega)]
  apply List.ext_getElem?
  intro j
  simp only [Array.toList_setIfInBounds,List.getElem?_append,List.length_take,List.length_append,List.length_cons,List.length_set,Array.length_toList,List.getElem?_take,List.getElem?_drop,List.getElem?_set]
  have e1 : min (off + (k + 1)) cs.size = off + k + 1 := by omega
  have e2 : min (off + k) cs.size = off + k := by omega
  simp only [e1,e2]
  by_cases h1 : j < off + k
  ·simp [h1,show j < off + k + 1 + l.length by omega,show j < off + k + 1 by omega,show j < off + (k + 1) by omega,show j < off + k + (l.length + 1) by omega,show off + k ≠ j by omega]
  ·by_cases h2 : j = off + k
   ·subst h2
    simp [show off + k < off + k + 1 + l.length by omega,show off + k < off + (k + 1) by omega,show off + k < off + k + (l.length + 1) by omega,show off + k < cs.size by omega]
   ·by_cases h3 : j < off + k + 1 + l.length
    ·simp [h1,h3,show ¬ j < off + k + 1 by omega,show j < off + k + (l.length + 1) by omega,show j - (off + k) = (j - (off + k + 1)) + 1 by omega]
    ·simp [h3,show ¬ j < off + k + (l.length + 1) by omega,show off + k ≠ off + (k + 1) + l.length + (j - (off + k + 1 + l.length)) by omega]
     congr 1; omega
theorem foldA_over (off : Nat) (v : Array Value) (cs : Array Value) (h : off + v.size ≤ cs.size) :
  v.zipIdx.foldl (fun (cs : Array Value) (p : Value × Nat) => cs.setIfInBounds (off + p.2) p.1) cs = (over cs.toList off v.toList).toArray := by
 rw [← Array.foldl_toList]
 apply Array.toList_inj.1
 have := fold_over off v.toList 0 cs (by simpa using h)
 simp only [Nat.add_zero] at this
 rw [Array.toList_zipIdx,this]
 rfl
theorem oks_over {A : Nat → Prop} {l m : List AC} {vs us : List Value} (h : oks T σ l vs w A) (h' : oks T σ m us w A) (off : Nat) : oks T σ (over l off m) (over vs off us) w A := by
 unfold over
 rw [h'.length]
 exact ((h.take off).append h').append (h.drop _)
theorem fill_ok {A : Nat → Prop} {place place' : Nat → Option (Nat × Nat)} (hpl : ∀ k,place k = place' k) : ∀ {parts : List (Nat × List AC)} {pvs : List (Nat × Value)} {cells cs : List AC} {vs : List Value},
  (List.length parts = pvs.length ∧ ∀ (j : Nat) (i : Nat) (l : List AC),parts[j]? = some (i,l) → ∃ v us,pvs[j]? = some (i,v) ∧ v.cells = List.toArray us ∧ oks T σ l us w A) →
  fillA place cells parts = some cs → oks T σ cells vs w A → ∃ us,Instr.fill place' vs.toArray pvs = some (List.toArray us) ∧ oks T σ cs us w A
 | [],pvs,cells,cs,vs,hp,hf,hv => by
  cases pvs with
  | nil => cases hf; exact ⟨vs,rfl,hv⟩
  | cons _ _ => simp at hp
 | (i,l) :: parts,pvs,cells,cs,vs,hp,hf,hv => by
  cases pvs with
  | nil => simp at hp
  | cons p pvs =>
   obtain ⟨v,us,h1,h2,h3⟩ := hp.2 0 i l rfl
   simp only [List.getElem?_cons_zero,Option.some.injEq] at h1
   subst h1
   unfold fillA at hf
   unfold Instr.fill
   rw [← hpl i]
   cases hq : place i with
   | none => simp [hq] at hf
   | some q =>
    obtain ⟨off,size⟩ := q
    simp only [hq] at hf ⊢
    split at hf
    ·rename_i hc
     simp only [Bool.and_eq_true,beq_iff_eq,decide_eq_true_eq] at hc
     have hl : us.length = l.length := h3.length
     have hl2 : vs.length = cells.length := hv.length
     rw [if_neg (by rw [h2]; simp; omega)]
     rw [foldA_over off v.cells vs.toArray (by rw [h2]; simp; omega)]
     rw [h2]
     refine fill_ok hpl (parts := parts) ⟨by simpa using hp.1,fun j k m hj => ?_⟩ hf (oks_over hv h3 off)
     exact hp.2 (j + 1) k m (by simpa using hj)
    ·cases hf
theorem partsA_ok (ht : TOk T cx.ints) (R : Rel T cx A0 w0 σ s a w) {sl : Nat → AV} (hsl : ∀ t,sl t = .junk ∨ sl t = s.tmps.getD t .undf) : ∀ {l : List (Nat × Operand)} {parts : List (Nat × List AC)},partsA sl l = some parts →
  (List.length parts = (l.map fun p => (p.1,a.eval p.2)).length ∧ ∀ (j : Nat) (i : Nat) (m : List AC),parts[j]? = some (i,m) → ∃ v us,(l.map fun p => (p.1,a.eval p.2))[j]? = some (i,v) ∧ v.cells = List.toArray us ∧ oks T σ m us w (Al A0 σ s.blocks))
 | [],parts,h => by cases h; simp
 | (i,x) :: l,parts,h => by
  unfold partsA at h
  split at h
  ·rename_i ar r h1 h2
   cases h
   obtain ⟨g1,g2⟩ := partsA_ok ht R hsl h2
   refine ⟨by simp at g1 ⊢; exact g1,fun j k m hj => ?_⟩
   cases j with
   | zero =>
    simp only [List.getElem?_cons_zero,Option.some.injEq,Prod.mk.injEq] at hj
    obtain ⟨rfl,rfl⟩ := hj
    obtain ⟨us,e1,e2⟩ := (AV.ar_ok h1 (R.operand hsl x)).cells ht
    exact ⟨_,us,rfl,e1,e2⟩
   | succ j => simp only [List.getElem?_cons_succ] at hj; simpa using g2 j k m hj
  ·cases h
theorem arsA_ok (R : Rel T cx A0 w0 σ s a w) {sl : Nat → AV} (hsl : ∀ t,sl t = .junk ∨ sl t = s.tmps.getD t .undf) : ∀ {l : List Operand} {as : List AR},arsA sl l = some as → okr T σ as (l.map a.eval) w (Al A0 σ s.blocks)
 | [],as,h => by cases h; trivial
 | x :: l,as,h => by
  unfold arsA at h
  split at h
  ·rename_i ar r h1 h2
   cases h
   exact ⟨AV.ar_ok h1 (R.operand hsl x),arsA_ok R hsl h2⟩
  ·cases h
theorem ownsA_ok (R : Rel T cx A0 w0 σ s a w) {sl : Nat → AV} (hsl : ∀ t,sl t = .junk ∨ sl t = s.tmps.getD t .undf) : ∀ {l : List Operand} {bs : List Nat},ownsA sl l = some bs → ptrs σ bs (l.map a.eval)
 | [],bs,h => by cases h; trivial
 | x :: l,bs,h => by
  unfold ownsA at h
  split at h
  ·rename_i b r h1 h2
   cases h
   exact ⟨AV.own_ok h1 (R.operand hsl x),ownsA_ok R hsl h2⟩
  ·cases h
theorem callee_ok (R : Rel T cx A0 w0 σ s a w) {sl : Nat → AV} (hsl : ∀ t,sl t = .junk ∨ sl t = s.tmps.getD t .undf) {callee : Callee} {f : FuncId} {fa fb : List Nat} (h : calleeA sl callee = some (f,fa,fb)) (args : Array Operand) (ats : Array TypeId) (dst : Option Tmp) (ty : TypeId) (pos : String) (after : Array Edge) (guard : Option (Nat × Bool)) :
  ∃ us vs : List Value,(execOp a.eval { dst,op := .call { callee,args,argTypes := ats },type := ty,pos,after,guard }).run P w = (callFunc f (us ++ args.toList.map a.eval ++ vs).toArray).run P w ∧ ptrs σ fa us ∧ ptrs σ fb vs := by
 unfold calleeA at h
 split at h
 ·cases h
  refine ⟨[],[],?_,trivial,trivial⟩
  rw [execOp_call_go]
  congr 1
  congr 1
  apply Array.toList_inj.1; simp
 ·rename_i x _
  split at h
  ·rename_i g p q hx
   cases h
   have h1 := R.operand hsl x
   rw [hx] at h1
   obtain ⟨us,vs,e,h2,h3⟩ := h1
   refine ⟨us,vs,?_,h2,h3⟩
   have e0 : (us.toArray ++ args.map a.eval ++ vs.toArray : Array Value) = (us ++ args.toList.map a.eval ++ vs).toArray := by
    apply Array.toList_inj.1; simp
   simp only [execOp,resolve,e,Deferred.ofValue,Sem.run_bind,Sem.run_pure,Result.andThen_ok,invoke,e0]
  ·cases h
 ·cases h
theorem needs_ok (R : Rel T cx A0 w0 σ s a w) {bl : Nat → Option BK} (hbl : ∀ b k,bl b = some k → s.blocks[b]? = some k) : ∀ {l : List (Nat × AB)},needsOk bl l = true → needsP T σ w (Al A0 σ s.blocks) l
 | [],_ => trivial
 | (b,ab) :: l,h => by
  simp only [needsOk,Bool.and_eq_true] at h
  refine ⟨?_,needs_ok R hbl h.2⟩
  have h1 := h.1
  split at h1
  ·rename_i c hc
   have := AB.eq_of h1
   subst this
   obtain ⟨n,vs,g1,g2,g3,g4,g5⟩ := R.blocks b c (hbl _ _ hc)
   exact ⟨n,vs,g1,.inr ⟨b,c,hbl _ _ hc,g1⟩,g3,g4⟩
  ·rename_i c hc
   have := AB.eq_of h1
   subst this
   obtain ⟨n,vs,g1,g2,g3,g4⟩ := R.lent b c (hbl _ _ hc)
   exact ⟨n,vs,g1,.inl g2,(R.below.block n (R.low n g2)).trans g3,g4⟩
  ·cases h1
theorem findC_spec {bl : Nat → Option BK} {f : FuncId} {as : List AR} {e : CS} : ∀ {l : List CS},findC bl f as l = some e → e ∈ l ∧ e.f = f ∧ e.args = as ∧ needsOk bl e.needs = true
 | [],h => by cases h
 | c :: l,h => by
  unfold findC at h
  split at h
  ·rename_i hc
   cases h
   simp only [Bool.and_eq_true,beq_iff_eq] at hc
   exact ⟨List.mem_cons_self,hc.1.1,eqL_of (fun _ _ => AR.eq_of) hc.1.2,hc.2⟩
  ·obtain ⟨h1,h2⟩ := findC_spec h
   exact ⟨List.mem_cons_of_mem _ h1,h2⟩
theorem findB_spec {op : BinOp} {t : TypeId} {x y : AR} {e : BS} : ∀ {l : List BS},findB op t x y l = some e → e ∈ l ∧ e.op = op ∧ e.t = t ∧ e.x = x ∧ e.y = y
 | [],h => by cases h
 | c :: l,h => by
  unfold findB at h
  split at h
  ·rename_i hc
   cases h
   simp only [Bool.and_eq_true,beq_iff_eq,decide_eq_true_eq] at hc
   exact ⟨List.mem_cons_self,hc.1.1.1,hc.1.1.2,AR.eq_of hc.1.2,AR.eq_of hc.2⟩
  ·obtain ⟨h1,h2⟩ := findB_spec h
   exact ⟨List.mem_cons_of_mem _ h1,h2⟩
theorem findO_spec {o : Oper} {as : List AR} {e : OS} : ∀ {l : List OS},findO o as l = some e → e ∈ l ∧ e.same o = true ∧ e.args = as
 | [],h => by cases h
 | c :: l,h => by
  unfold findO at h
  split at h
  ·rename_i hc
   cases h
   simp only [Bool.and_eq_true] at hc
   exact ⟨List.mem_cons_self,hc.1,eqL_of (fun _ _ => AR.eq_of) hc.2⟩
  ·obtain ⟨h1,h2⟩ := findO_spec h
   exact ⟨List.mem_cons_of_mem _ h1,h2⟩
theorem Addr.add_plain (n o k : Nat) : (⟨n,o,none⟩ : Addr).add k = ⟨n,o + k,none⟩ := by unfold Addr.add; split <;> simp_all
theorem run_isAgg {t : TypeId} {d : TypeDesc} (h : P.underlying t = some d) (w : World) : (isAgg t).run P w = .ok (isAggD d) w := by
 unfold isAgg
 rw [Sem.run_bind,run_underlying h w]
 cases d <;> rfl
theorem other_ok (C : CxOk P T cx) (R : Rel T cx A0 w0 σ s a w) {sl : Nat → AV} (hsl : ∀ t,sl t = .junk ∨ sl t = s.tmps.getD t .undf) {o : Oper} {e : Eff} (h : other cx o sl = some e) {K : Act → World → Prop} (hK : ∀ σ' a' w',Rel T cx A0 w0 σ' (s.put o.dst e) a' w' → K a' w') : o.wp P a w K Q := by
 unfold other at h
 split at h
 ·rename_i as h1
  split at h
  ·rename_i e' h2
   cases h
   obtain ⟨m1,m2,m3⟩ := findO_spec h2
   obtain ⟨v,hv,hr⟩ := C.others e' m1 o m2 σ a.eval w _ (by rw [m3]; exact arsA_ok R hsl h1)
   exact wp_value hv (hK _ _ _ (R.val hr _))
  ·cases h
 ·cases h
theorem litB_ok {op : BinOp} {x y : AV} {l : LV} (h : litB op x y = some l) {A : Nat → Prop} {vx vy : Value} (hx : x.ok T σ vx w A) (hy : y.ok T σ vy w A) (t : TypeId) (xo yo : Operand) :
  (do eqGuard op t xo yo vx vy; binOp op t vx vy : Sem Value).run P w = .ok l.val w := by
 unfold litB at h
 split at h
 ·rename_i k n j m
  rw [show vx = .int k n from hx,show vy = .int j m from hy]
  split at h
  ·rename_i e
   have e := of_decide_eq_true e
   subst e
   cases op <;> simp only [Option.some.injEq] at h <;> first | (cases h; done) | (subst h; simp [eqGuard,binOp,Op.intCmp,Op.intArith,LV.val])
  ·cases h
 ·cases h
end
end Tr
