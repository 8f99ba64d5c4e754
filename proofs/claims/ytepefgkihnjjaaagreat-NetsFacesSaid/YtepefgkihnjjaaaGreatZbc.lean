/- Laws for the walk. -/
import Derived.Test.YtepefgkihnjjaaaGreatZzz
import Derived.Test.YtepefgkihnjjaaaGreatZaf
set_option linter.unusedVariables false
namespace Tr
open Go Go.RowKit
def OnlyN (Q : Exit → Act → World → Prop) : Exit → Act → World → Prop := fun e a w => match e with | .normal => Q .normal a w | _ => False
theorem onlyN_out {Q : Exit → Act → World → Prop} : ¬ LetsOut (OnlyN Q) := fun ⟨_,_,h⟩ => h
theorem onlyN_normal {Q : Exit → Act → World → Prop} {a : Act} {w : World} (h : Q .normal a w) : OnlyN Q .normal a w := h
theorem onlyN_wp {P : Program} {Q : Exit → Act → World → Prop} {o : Oper} {a : Act} {w : World} {K K' : Act → World → Prop} (hK : ∀ a w,K a w → K' a w) (h : o.wp P a w K (OnlyN Q)) : o.wp P a w K' Q := by
 unfold Oper.wp at *
 generalize (execOp a.eval o).run P w = r at *
 cases r with
 | ok n w' =>
  cases n <;> simp only [Oper.upon] at h ⊢
  case value u => exact hK _ _ h
  case skip => exact hK _ _ h
  case defer d => exact hK _ _ h
  case enter g args =>
   refine Calls.mono h fun e w'' he => ?_
   cases e with
   | returned u => exact hK _ _ he
   | panicked c => exact he.elim
   | outgrown => exact absurd he onlyN_out
  case row row args => exact Rows.mono h fun u w'' he => hK _ _ he
 | halt x w' =>
  cases x <;> simp only [Oper.upon] at h ⊢
  case panic u => exact h.elim
theorem wpAny_onlyN {P : Program} {md : Region.Mode} {ops : Array Oper} {Q : Exit → Act → World → Prop} : ∀ (n : Nat) (listed : Array Bool) (a : Act) (w : World),wpAny P md ops (OnlyN Q) n listed a w → wpAny P md ops Q n listed a w
 | 0,_,_,_,h => h
 | n + 1,listed,a,w,h => by
  refine ⟨h.1,fun i hi => ?_⟩
  have h1 := h.2 i hi
  unfold wpOp at h1 ⊢
  cases ho : ops[i]? with
  | none => rw [ho] at h1; exact wpAny_onlyN n _ _ _ h1
  | some o =>
   rw [ho] at h1
   simp only at h1 ⊢
   split
   ·rename_i hw
    rw [if_pos hw] at h1
    rcases h1 with h1 | ⟨_,h1⟩
    ·exact .inl (onlyN_wp (fun a w => wpAny_onlyN n _ a w) h1)
    ·exact absurd h1 onlyN_out
   ·rename_i hw
    rw [if_neg hw] at h1
    exact wpAny_onlyN n _ _ _ h1
def edged (s : Oper) (ix : Nat) : Oper := { s with after := s.after.push ⟨ix,.data⟩ }
def withEdge : List Oper → Nat → Nat → List Oper
 | [],_,_ => []
 | s :: l,0,ix => edged s ix :: l
 | o :: l,js + 1,ix => o :: withEdge l js ix
theorem withEdge_get : ∀ (l : List Oper) (js ix k : Nat),(withEdge l js ix)[k]? = if k = js then l[k]?.map (edged · ix) else l[k]?
 | [],_,_,k => by simp [withEdge]
 | s :: l,0,ix,0 => by simp [withEdge]
 | s :: l,0,ix,k + 1 => by simp [withEdge]
 | s :: l,js + 1,ix,0 => by simp [withEdge]
 | s :: l,js + 1,ix,k + 1 => by simpa [withEdge] using withEdge_get l js ix k
structure Swap (md : Region.Mode) (ops ops' : Array Oper) (ix js : Nat) (x s : Oper) : Prop where
 hx : ops[ix]? = some x
 hs : ops[js]? = some s
 hs' : ops'[js]? = some (edged s ix)
 other : ∀ k,k ≠ js → ops'[k]? = ops[k]?
 ext : ∃ t k,x.op = .extract t k
 gx : x.guard = none
 ne : ix ≠ js
 early : ∀ e ∈ x.after,Region.binds md e = true → ∃ e' ∈ s.after,Region.binds md e' = true ∧ e'.on = e.on
 free : ∀ k o,ops[k]? = some o → k ≠ ix → (∀ e ∈ x.after,Region.binds md e = true → e.on ≠ k) → (∀ e ∈ o.after,Region.binds md e = true → e.on ≠ ix) → x.apart ops o = true
 sel : ∀ (j : Nat) (o : Oper) cs b,ops[j]? = some o → o.op ≠ .select cs b
theorem edged_wp {P : Program} {s : Oper} {ix : Nat} {a : Act} {w : World} {K : Act → World → Prop} {Q : Exit → Act → World → Prop} : (edged s ix).wp P a w K Q ↔ s.wp P a w K Q := by
 have e : execOp a.eval (edged s ix) = execOp a.eval s := rfl
 unfold Oper.wp
 rw [e]
 generalize (execOp a.eval s).run P w = r
 cases r with
 | ok n w' => cases n <;> exact Iff.rfl
 | halt x w' => cases x <;> exact Iff.rfl
section
variable {P : Program} {md : Region.Mode} {ops ops' : Array Oper} {Q : Exit → Act → World → Prop} {ix js : Nat} {x s : Oper}
theorem Swap.yielded (sw : Swap md ops ops' ix js x s) (tm : Array Value) : Go.yielded ops' tm = Go.yielded ops tm := by
 funext j
 unfold Go.yielded
 by_cases h : j = js
 ·subst h; rw [sw.hs,sw.hs']; rfl
 ·rw [sw.other j h]
theorem Swap.op (sw : Swap md ops ops' ix js x s) (i : Nat) (K : Act → World → Prop) (a : Act) (w : World) (h : wpOp P ops' (OnlyN Q) i K a w) : wpOp P ops (OnlyN Q) i K a w := by
 unfold wpOp at h ⊢
 by_cases hi : i = js
 ·subst hi
  rw [sw.hs'] at h
  rw [sw.hs]
  simp only [sw.yielded] at h ⊢
  have e : Region.wanted (edged s ix) (Go.yielded ops a.tmps) = Region.wanted s (Go.yielded ops a.tmps) := rfl
  rw [e] at h
  split
  ·rename_i hw
   rw [if_pos hw] at h
   rcases h with h | ⟨_,h⟩
   ·exact .inl (edged_wp.1 h)
   ·exact absurd h onlyN_out
  ·rename_i hw
   rw [if_neg hw] at h
   exact h
 ·rw [sw.other i hi] at h
  cases ho : ops[i]? with
  | none => rw [ho] at h; exact h
  | some o =>
   rw [ho] at h
   simp only [sw.yielded] at h ⊢
   split
   ·rename_i hw
    rw [if_pos hw] at h
    rcases h with h | ⟨_,h⟩
    ·exact .inl h
    ·exact absurd h onlyN_out
   ·rename_i hw
    rw [if_neg hw] at h
    exact h
theorem Swap.ready (sw : Swap md ops ops' ix js x s) {listed : Array Bool} (hsz : listed.size = ops.size) {i : Nat} (hi : i ∈ Region.ready md ops listed) :
  i ∈ Region.ready md ops' listed ∨ (i = js ∧ ix ∈ Region.ready md ops' listed ∧ ix ∈ Region.ready md ops listed) := by
 obtain ⟨hun,o,ho,hall⟩ := mem_ready.1 hi
 by_cases h : i = js
 ·subst h
  rw [sw.hs] at ho
  cases ho
  have hlt : ix < listed.size := by rw [hsz]; exact (Array.getElem?_eq_some_iff.1 sw.hx).1
  by_cases hl : listed.getD ix false = true
  ·refine .inl (mem_ready.2 ⟨hun,_,sw.hs',fun e he hb => ?_⟩)
   rcases Array.mem_push.1 he with he | rfl
   ·exact hall e he hb
   ·exact hl
  ·have h0 : listed.getD ix true = false := by rw [getD_tf hlt]; simpa using hl
   have h1 : ∀ e ∈ x.after,Region.binds md e = true → listed.getD e.on false = true := fun e he hb => by
    obtain ⟨e',he',hb',hon⟩ := sw.early e he hb
    rw [← hon]; exact hall e' he' hb'
   exact .inr ⟨rfl,mem_ready.2 ⟨h0,x,by rw [sw.other ix sw.ne]; exact sw.hx,h1⟩,mem_ready.2 ⟨h0,x,sw.hx,h1⟩⟩
 ·exact .inl (mem_ready.2 ⟨hun,o,by rw [sw.other i h]; exact ho,hall⟩)
theorem Swap.nil (sw : Swap md ops ops' ix js x s) {listed : Array Bool} (hsz : listed.size = ops.size) (h : Region.ready md ops' listed = []) : Region.ready md ops listed = [] := by
 cases hr : Region.ready md ops listed with
 | nil => rfl
 | cons i l =>
  exfalso
  have hi : i ∈ Region.ready md ops listed := by rw [hr]; simp
  rcases sw.ready hsz hi with h1 | ⟨_,h1,_⟩ <;> (rw [h] at h1; cases h1)
theorem Swap.nil' (sw : Swap md ops ops' ix js x s) {listed : Array Bool} (h : Region.ready md ops listed = []) : Region.ready md ops' listed = [] := by
 cases hr : Region.ready md ops' listed with
 | nil => rfl
 | cons i l =>
  exfalso
  have hi : i ∈ Region.ready md ops' listed := by rw [hr]; simp
  obtain ⟨hun,o,ho,hall⟩ := mem_ready.1 hi
  have : i ∈ Region.ready md ops listed := by
   by_cases hj : i = js
   ·subst hj
    rw [sw.hs'] at ho
    cases ho
    exact mem_ready.2 ⟨hun,s,sw.hs,fun e he hb => hall e (Array.mem_push.2 (.inl he)) hb⟩
   ·rw [sw.other i hj] at ho
    exact mem_ready.2 ⟨hun,o,ho,hall⟩
  rw [h] at this
  cases this
theorem extract_runs {a : Act} {w : World} {K : Act → World → Prop} (hext : ∃ t k,x.op = .extract t k) (h : x.wp P a w K (OnlyN Q)) : ∃ v,(∀ w,(execOp a.eval x).run P w = .ok (.value v) w) ∧ K (a.put x.dst v) w := by
 obtain ⟨t,k,hx⟩ := hext
 unfold Oper.wp at h
 cases ht : a.eval t with
 | tuple vs =>
  cases hk : vs[k]? with
  | some u =>
   have : ∀ w,(execOp a.eval x).run P w = .ok (.value u) w := fun w => by
    unfold execOp
    rw [hx]
    simp only [ht,Instr.extract,hk]
    rfl
   rw [this] at h
   exact ⟨u,this,h⟩
  | none =>
   exfalso
   unfold execOp at h
   rw [hx] at h
   simp only [ht,Instr.extract,hk] at h
   exact h
 | _ =>
  exfalso
  unfold execOp at h
  rw [hx] at h
  simp only [ht,Instr.extract] at h
  exact h
theorem wpAny_edge (sw : Swap md ops ops' ix js x s) : ∀ (n m : Nat),m ≤ n → ∀ (listed : Array Bool) (a : Act) (w : World),listed.size = ops.size → wpAny P md ops' (OnlyN Q) m listed a w → wpAny P md ops (OnlyN Q) m listed a w := by
 intro n
 induction n with
 | zero =>
  intro m hm listed a w hsz h
  obtain rfl : m = 0 := by omega
  exact ⟨sw.nil hsz h.1,h.2⟩
 | succ n ih =>
  intro m hm listed a w hsz h
  cases m with
  | zero => exact ⟨sw.nil hsz h.1,h.2⟩
  | succ m =>
   have hn : m ≤ n := by omega
   refine ⟨fun h0 => h.1 (sw.nil' h0),fun i hi => ?_⟩
   rcases sw.ready hsz hi with h1 | ⟨rfl,h1,h2⟩
   ·exact wpOp_mono (fun a w => ih m hn _ a w (by simp [hsz])) (sw.op i _ a w (h.2 i h1))
   ·have h3 := sw.op ix _ a w (h.2 ix h1)
    unfold wpOp at h3
    rw [sw.hx] at h3
    have hwx : ∀ y,Region.wanted x y = true := fun y => by unfold Region.wanted; rw [sw.gx]
    simp only [hwx,if_true] at h3
    have h4 : x.wp P a w (wpAny P md ops' (OnlyN Q) m (listed.setIfInBounds ix true)) (OnlyN Q) := by
     rcases h3 with h3 | ⟨_,h3⟩
     ·exact h3
     ·exact absurd h3 onlyN_out
    obtain ⟨v,hv,h5⟩ := extract_runs sw.ext h4
    have hy : Yields P ops x v a := .inl ⟨hwx _,hv⟩
    obtain ⟨hun,o,ho,hall⟩ := mem_ready.1 hi
    rw [sw.hs] at ho
    cases ho
    obtain ⟨hxun,x',hx',hxall⟩ := mem_ready.1 h2
    rw [sw.hx] at hx'
    cases hx'
    have hixlt : ix < listed.size := getD_false_lt hxun
    have hnot : ∀ e ∈ s.after,Region.binds md e = true → e.on ≠ ix := fun e he hb hon => by
     have := hall e he hb
     rw [hon,← getD_tf hixlt,hxun] at this
     cases this
    have happ : x.apart ops s = true := by
     refine sw.free i s sw.hs (Ne.symm sw.ne) (fun e he hb hon => ?_) hnot
     have := hxall e he hb
     rw [hon,← getD_tf (getD_false_lt hun),hun] at this
     cases this
    -- the store is ready behind it
    have hr : i ∈ Region.ready md ops' (listed.setIfInBounds ix true) := by
     refine mem_ready.2 ⟨by rw [getD_set_ne true sw.ne]; exact hun,_,sw.hs',fun e he hb => ?_⟩
     rcases Array.mem_push.1 he with he | rfl
     ·exact getD_set_true (hall e he hb)
     ·simp [hixlt]
    cases m with
    | zero =>
     exfalso
     have := h5.1
     rw [this] at hr
     cases hr
    | succ m =>
     have h6 := sw.op i _ _ w (h5.2 i hr)
     have h7 := wpOp_put (oi := x) sw.hs happ (fun cs b => sw.sel ix x cs b sw.hx) (fun cs b => sw.sel i s cs b sw.hs) (fun _ _ _ h => h.elim) hy h6
     refine wpOp_mono (fun a' w' h8 => ?_) h7
     have h9 := ih m (by omega) _ _ _ (by simp [hsz]) h8.2
     rw [Array.setIfInBounds_comm _ _ sw.ne] at h9
     refine wpAny_first sw.hx sw.sel (fun _ _ _ h => h.elim) m _ a' w' (fun k ok hk hki hku hkn => ?_) (ready_mono h2 sw.ne) h8.1 h9
     refine sw.free k ok hk hki (fun e he hb hon => ?_) hkn
     have h10 : listed.getD k false = true := by rw [← hon]; exact hxall e he hb
     have h11 : k < (listed.setIfInBounds i true).size := getD_false_lt hku
     rw [getD_tf h11,getD_set_true h10] at hku
     cases hku
end
def swapOk (md : Region.Mode) (l : List Oper) (ix js : Nat) : Bool :=
 match l[ix]?,l[js]? with
 | some x,some s => (match x.op with | .extract _ _ => true | _ => false) && x.guard.isNone && ix != js &&
  x.after.all (fun e => !Region.binds md e || s.after.any fun e' => Region.binds md e' && e'.on == e.on) &&
  (List.range l.length).all (fun k => k == ix || x.after.any (fun e => Region.binds md e && e.on == k) || match l[k]? with
   | some o => o.after.any (fun e => Region.binds md e && e.on == ix) || x.apart l.toArray o
   | none => true) && Region.noSelect l.toArray
 | _,_ => false
theorem swapOk_spec {md : Region.Mode} {l : List Oper} {ix js : Nat} (h : swapOk md l ix js = true) : ∃ x s,Swap md l.toArray (withEdge l js ix).toArray ix js x s := by
 unfold swapOk at h
 cases hx : l[ix]? with
 | none => rw [hx] at h; cases h
 | some x =>
  cases hs : l[js]? with
  | none => rw [hx,hs] at h; cases h
  | some s =>
   rw [hx,hs] at h
   simp only [Bool.and_eq_true] at h
   obtain ⟨⟨⟨⟨⟨h1,h2⟩,h3⟩,h4⟩,h5⟩,h6⟩ := h
   refine ⟨x,s,by simpa using hx,by simpa using hs,by simp [withEdge_get,hs],fun k hk => by simp [withEdge_get,hk],?_,by simpa using h2,by simpa using h3,fun e he hb => ?_,fun k o hk hki hxk hok => ?_,Region.noSelect_spec h6⟩
   ·cases hop : x.op with
    | extract t k => exact ⟨t,k,rfl⟩
    | _ => rw [hop] at h1; cases h1
   ·have := Array.all_eq_true_iff_forall_mem.1 h4 e he
    rw [hb] at this
    simp only [Bool.not_true,Bool.false_or] at this
    obtain ⟨e',he',h7⟩ := Array.any_eq_true'.1 this
    simp only [Bool.and_eq_true,beq_iff_eq] at h7
    exact ⟨e',he',h7.1,h7.2⟩
   ·simp only [List.all_eq_true,List.mem_range] at h5
    have hk' : l[k]? = some o := by simpa using hk
    have h7 := h5 k (List.getElem?_eq_some_iff.1 hk').1
    rw [hk'] at h7
    simp only [Bool.or_eq_true,beq_iff_eq,hki,false_or] at h7
    rcases h7 with h7 | h7 | h7
    ·obtain ⟨e,he,h8⟩ := Array.any_eq_true'.1 h7
     simp only [Bool.and_eq_true,beq_iff_eq] at h8
     exact absurd h8.2 (hxk e he h8.1)
    ·obtain ⟨e,he,h8⟩ := Array.any_eq_true'.1 h7
     simp only [Bool.and_eq_true,beq_iff_eq] at h8
     exact absurd h8.2 (hok e he h8.1)
    ·exact h7
theorem wp_region_swap {P : Program} {Q : Exit → Act → World → Prop} {id : Nat} {a : Act} {w : World} {l : List Oper} (ix js : Nat) (l' : List Oper) (hl : l' = withEdge l js ix) (ks : List (Ku × List Nat)) (F : Nat → Fact) (hm : P.follows .mixedOrders = true) (hsw : swapOk .any l ix js = true) (hkeep : ∀ i,(F i).Keeps)
  (h : RWo P l'.toArray (OnlyN Q) w.drew F ((ownsOf 0 ks).map (·.1)) 0 l' ks (fun _ => a) (fun _ _ _ => True)) (hnow : ∀ k ∈ ks,∀ z,k.1.kd = .new z → NoW z) (hz : ∀ k ∈ ks,∀ r z,k.1.kd = .on r z → (ks[r]?).map (·.1) = some (.new z)) (hc : chk l' ks = true) : (Code.region id l.toArray true).wp P Q a w := by
 subst hl
 obtain ⟨x,s,sw⟩ := swapOk_spec hsw
 have hlen : (withEdge l js ix).toArray.size = l.toArray.size := by
  have : ∀ (l : List Oper) js,(withEdge l js ix).length = l.length := by
   intro l
   induction l with
   | nil => intro js; rfl
   | cons o l ih => intro js; cases js <;> simp [withEdge,ih]
  simp [this]
 refine wp_region_any hm (wpAny_onlyN _ _ _ _ ?_)
 have h1 := wpAny_own (P := P) (Q := OnlyN Q) ks F hkeep h hnow hz hc
 rw [hlen] at h1
 exact wpAny_edge sw _ _ (Nat.le_refl _) _ _ _ (by simp) h1
end Tr
