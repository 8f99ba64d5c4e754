/- Laws for the walk. -/
import Derived.Test.YteljkhfbgliokaaGreatZzz
import Derived.Test.YteljkhfbgliokaaGreatZaw
set_option linter.unusedVariables false
namespace Go.Proofs.YteljkhfbgliokaaGreat
open Go.RowKit Tr
abbrev Un (A0 A : Nat → Prop) : Nat → Prop := fun b => A b ∨ A0 b
theorem rcv_un {A0 A : Nat → Prop} {w : World} (h0 : Rcv A0 w) (h : Rcv A w) : Rcv (Un A0 A) w := fun b hb => hb.elim (h b) (h0 b)
def FactU (A0 : Nat → Prop) (R : Fact) : Fact := fun v w A => R v w (Un A0 A)
theorem FactU.keeps {A0 : Nat → Prop} {R : Fact} (h : R.Keeps) : (FactU A0 R).Keeps := by
 intro v w w' A A' hs hk hR
 refine h v w w' _ _ hs (fun b hb hn => ?_) hR
 obtain ⟨k1,k2⟩ := hk b hb (fun h => hn (.inl h))
 exact ⟨k1,fun h => h.elim k2 (fun h => hn (.inr h))⟩
theorem FactU.start {A0 : Nat → Prop} {R : Fact} (h : R.Keeps) {v : Value} {w : World} (hR : R v w A0) : FactU A0 R v w NoA :=
 h v w w A0 _ (Nat.le_refl _) (fun b _ hn => ⟨rfl,fun h => h.elim (fun h => h.elim) hn⟩) hR
theorem FactU.done {A0 : Nat → Prop} {R : Fact} (h : R.Keeps) {v : Value} {w : World} (hR : FactU A0 R v w NoA) : R v w A0 :=
 h v w w _ A0 (Nat.le_refl _) (fun b _ hn => ⟨rfl,fun h => hn (.inr h)⟩) hR
theorem PutR.ratU {m base : Nat} {q : Rat} {w w' : World} (h : PutR m q w w') {A0 A : Nat → Prop} (hA0 : Rcv A0 w) (hA : Rcv A w) (hm : base ≤ m) (h0 : ∀ b,A0 b → b < base) : FactU A0 (RatP q) (.pointer (some ⟨m,0,none⟩)) w' (fun b => A b ∧ b ≠ m) :=
 (h.ratP (rcv_un hA0 hA)).wider fun b hb => hb.elim (fun h => ⟨.inl h.1,h.2⟩) (fun h => ⟨.inr h,fun e => by have := h0 b h; omega⟩)
def RatO (q : Rat) : Fact := fun v w A => (v = .pointer none ∧ q = 0) ∨ RatP q v w A
theorem RatO.keeps (q : Rat) : (RatO q).Keeps := fun v w w' A A' hs hk h => h.imp id (RatP.keeps q v w w' A A' hs hk)
theorem RatO.below {q : Rat} {v : Value} {w w' : World} {A : Nat → Prop} (h : RatO q v w A) (hb : Below w.heap.size w w') : RatO q v w' A := Fact.Keeps.below (RatO.keeps q) hb h
theorem RatP.zero {m : Nat} {w : World} {A : Nat → Prop} (h : w.heap[m]? = some zR) (hA : ¬ A m) : RatP 0 (.pointer (some ⟨m,0,none⟩)) w A := by
 have hlt := (Array.getElem?_eq_some_iff.1 h).1
 have hn : WSlA A w (.slice none 0 0) (words 0) := by rw [words_zero]; exact ⟨none,0,rfl,Nat.le_refl _,fun h => absurd rfl h⟩
 refine ⟨m,rfl,⟨m,0,.slice none 0 0,rfl,hlt,hA,by simp [World.cell?,h],by simp [World.cell?,h],hn⟩,.inr ⟨rfl,m,2,.slice none 0 0,rfl,hlt,hA,by simp [World.cell?,h],by simp [World.cell?,h],hn⟩⟩
def NumO (a b : Rat) : Fact := fun v w A => ∃ u1 u2,v = .agg #[u1,u2] ∧ RatO a u1 w A ∧ RatO b u2 w A
theorem NumO.keeps (a b : Rat) : (NumO a b).Keeps := fun v w w' A A' hs hk ⟨u1,u2,h1,h2,h3⟩ => ⟨u1,u2,h1,RatO.keeps a _ _ _ _ _ hs hk h2,RatO.keeps b _ _ _ _ _ hs hk h3⟩
theorem NumO.below {a b : Rat} {v : Value} {w w' : World} {A : Nat → Prop} (h : NumO a b v w A) (hb : Below w.heap.size w w') : NumO a b v w' A := Fact.Keeps.below (NumO.keeps a b) hb h
abbrev Mo (A : Nat → Prop) (n : Nat) : Nat → Prop := fun b => A b ∨ b = n
theorem keep_set (R : Fact) (hR : R.Keeps) {n o : Nat} {A : Nat → Prop} {x y : Value} {w : World} (h : R x w (Mo A n)) : R x (w.setCell ⟨n,o,none⟩ y) (Mo A n) :=
 hR _ _ _ _ _ (by simp [World.setCell]) (fun b _ hn => ⟨Below.heap_setCell _ _ _ _ (fun e => hn (.inr e)),hn⟩) h
theorem more_less (R : Fact) (hR : R.Keeps) {n : Nat} {A : Nat → Prop} {x : Value} {w : World} (h : R x w (Mo A n)) : R x w A :=
 hR _ _ _ _ _ (Nat.le_refl _) (fun b _ hn => ⟨rfl,fun h => hn (.inl h)⟩) h
theorem put_num {a b : Rat} {v1 v2 : Value} {w w1 : World} {A : Nat → Prop} {n : Nat} (hb : Below w.heap.size w w1) (h1 : RatP a v1 w1 (Mo A n)) (h2 : RatP b v2 w1 (Mo A n)) (hn : w.heap.size ≤ n) :
  ∃ u,Ending.returned (.agg #[v1,v2]) = .returned u ∧ Below w.heap.size w ((w1.setCell ⟨n,0,none⟩ v1).setCell ⟨n,1,none⟩ v2) ∧ NumO a b u ((w1.setCell ⟨n,0,none⟩ v1).setCell ⟨n,1,none⟩ v2) A := by
 refine ⟨_,rfl,(hb.setCell (p := ⟨n,0,none⟩) hn _).setCell (p := ⟨n,1,none⟩) hn _,v1,v2,rfl,.inr ?_,.inr ?_⟩
 ·exact more_less _ (RatP.keeps a) (keep_set _ (RatP.keeps a) (keep_set _ (RatP.keeps a) h1))
 ·exact more_less _ (RatP.keeps b) (keep_set _ (RatP.keeps b) (keep_set _ (RatP.keeps b) h2))
theorem new_more {R : Fact} (hR : R.Keeps) {n : Nat} {A : Nat → Prop} {x : Value} {w w1 : World} (hb : Below w.heap.size w w1) (hn : w.heap.size ≤ n) (h : R x w A) : FactU (Mo A n) R x w1 NoA :=
 hR _ _ _ _ _ hb.size (fun b hlt hna => ⟨hb.block b hlt,fun h => h.elim (fun h => h) (fun h => h.elim hna (fun e => by omega))⟩) h
theorem noW_num (v1 v2 : Value) (h1 : ∃ p,v1 = .pointer p) (h2 : ∃ p,v2 = .pointer p) (T : TypeId) : NoW (.cells #[v1,v2] T (0,0)) := by
 obtain ⟨p,rfl⟩ := h1
 obtain ⟨q,rfl⟩ := h2
 intro cs T fr e i k x
 cases e
 rcases i with _ | _ | i <;> simp
end Go.Proofs.YteljkhfbgliokaaGreat
namespace Go.Proofs.YteljkhfbgliokaaGreat
open Go.RowKit Tr
end Go.Proofs.YteljkhfbgliokaaGreat
namespace Go.Proofs.YteljkhfbgliokaaGreat
open Go.RowKit Tr
theorem num_sign_zero {q : Rat} : q.num.sign = 0 ↔ q = 0 := by
 rw [Int.sign_eq_zero_iff_zero,Rat.num_eq_zero]
end Go.Proofs.YteljkhfbgliokaaGreat
namespace Go.Proofs.YteljkhfbgliokaaGreat
open Go.RowKit Tr
theorem BSl.below {w w' : World} {v : Value} {s : ByteArray} (h : BSl w v s) (hb : Below w.heap.size w w') : BSl w' v s := by
 obtain ⟨b,off,cap,rfl,hlt,h⟩ := h
 exact ⟨b,off,cap,rfl,Nat.lt_of_lt_of_le hlt hb.size,fun i hi => (hb.cell (p := ⟨b,off + i,none⟩) hlt).trans (h i hi)⟩
theorem divInt_one (i : Int) : Rat.divInt i 1 = (i : Rat) := by
 have := Rat.num_divInt_den (i : Rat)
 rw [Rat.num_intCast,Rat.den_intCast] at this
 simpa using this
def ShortF (q : Rat) : Prop := (strN q.num.natAbs).size ≤ 1024 ∧ (strN q.den).size ≤ 1024
instance (q : Rat) : Decidable (ShortF q) := by unfold ShortF; infer_instance
def zF : Value := .agg #[.bool false,.string ⟨#[]⟩,.bool false,.string ⟨#[]⟩]
def outF (q : Rat) : Value := if ShortF q then encF q else zF
def outC (q : Rat) : Int := if ShortF q then 0 else 4
end Go.Proofs.YteljkhfbgliokaaGreat
namespace Tr
open Go Go.RowKit
section
variable {P : Program} {L : List GF}
def goLenS (t : TypeId) (ht : P.underlying t = some .string) (x : AC) (s : ByteArray) (res : AC) (hn : x.noown = true := by rfl) (hx : x.gv L = some (.string s) := by rfl) (hr : res.gv L = some (.int .i64 (s.size : Nat)) := by rfl) : GO P L :=
 goLenG t (.c x) res (fun w A u ty hu => by
  have e : u = .string s := (AC.gv_ok (x := x) hx).1 hu
  subst e
  simp [Builtin.len_,run_underlying ht,goInt]) (by simpa [AR.noown,AR.cells] using hn) hr
theorem eqGuard_plain {t : TypeId} (h : P.eqGuardType P.depth t = false) (op : BinOp) (xo yo : Operand) (a b : Array Value) (w : World) : (eqGuard op t xo yo (.agg a) (.agg b)).run P w = .ok () w := by
 cases op <;> simp [eqGuard,h]
theorem agg_eql {t : TypeId} (h : P.eqGuardType P.depth t = false) {a b : Array Value} {r : Bool} (he : ∀ w,(binOp .eql t (.agg a) (.agg b)).run P w = .ok (.bool r) w) : ∀ (xo yo : Operand) (w : World),(do eqGuard .eql t xo yo (.agg a) (.agg b); binOp .eql t (.agg a) (.agg b) : Sem Value).run P w = .ok (.bool r) w := by
 intro xo yo w
 rw [Sem.run_bind,eqGuard_plain h,Result.andThen_ok,he]
theorem agg_neq {t : TypeId} (h : P.eqGuardType P.depth t = false) {a b : Array Value} {r : Bool} (he : ∀ w,(binOp .eql t (.agg a) (.agg b)).run P w = .ok (.bool r) w) : ∀ (xo yo : Operand) (w : World),(do eqGuard .neq t xo yo (.agg a) (.agg b); binOp .neq t (.agg a) (.agg b) : Sem Value).run P w = .ok (.bool !r) w := by
 intro xo yo w
 have e1 : binOp .eql t (.agg a) (.agg b) = (do pure (.bool (← Op.equal t (.agg a) (.agg b)))) := rfl
 have e2 : binOp .neq t (.agg a) (.agg b) = (do pure (.bool (!(← Op.equal t (.agg a) (.agg b))))) := rfl
 rw [Sem.run_bind,eqGuard_plain h,Result.andThen_ok,e2]
 have := he w
 rw [e1,Sem.run_bind] at this
 rw [Sem.run_bind]
 cases hq : (Op.equal t (.agg a) (.agg b)).run P w with
 | ok v w' =>
  rw [hq] at this
  simp only [Result.andThen_ok,Sem.run_pure,Result.ok.injEq,Value.bool.injEq] at this ⊢
  exact ⟨by rw [this.1],this.2⟩
 | halt x w' => rw [hq] at this; cases this
end
end Tr
namespace Go.Proofs.YteljkhfbgliokaaGreat
open Go.RowKit Tr
set_option maxRecDepth 100000 in
theorem run_eql_w (w : World) (n1 m1 : Bool) (s1 t1 : ByteArray) (r : Bool) (hr : r = true ↔ Value.agg #[.bool n1,.string s1] = .agg #[.bool m1,.string t1]) :
  (binOp .eql 23 (.agg #[.bool n1,.string s1]) (.agg #[.bool m1,.string t1])).run Tryz.prog w = .ok (.bool r) w := by
 simp only [Value.agg.injEq,Array.mk.injEq,List.cons.injEq,Value.bool.injEq,Value.string.injEq,and_true] at hr
 go_simp
 simp only [toL_iff]
 cases r
 ·have hn : ¬ (n1 = m1 ∧ s1 = t1) := fun h => by cases hr.2 h
  repeat' split
  all_goals first
   | rfl
   | (exfalso; apply hn; refine ⟨?_,?_⟩ <;> assumption)
 ·obtain ⟨rfl,rfl⟩ := hr.1 rfl
  simp
theorem encZ_inj {x y : Int} (h : encZ x = encZ y) : x = y := by
 unfold encZ at h
 simp only [Value.agg.injEq,Array.mk.injEq,List.cons.injEq,Value.bool.injEq,Value.string.injEq,and_true] at h
 have h2 := strN_inj h.2
 by_cases hx : x < 0 <;> by_cases hy : y < 0 <;> simp [hx,hy] at h <;> omega
theorem ffits (n1 n2 : Bool) (s1 s2 : ByteArray) (r : Bool) (hr : r = decide (s1.size ≤ 1024 ∧ s2.size ≤ 1024)) : PureC Tryz.prog 67 [.agg #[.bool n1,.string s1,.bool n2,.string s2]] (.bool r) := by
 by_cases h1 : s1.size ≤ 1024
 ·exact ev_pure (hp := false) (L := [gx (.bool n1),gx (.string s1),gx (.bool n2),gx (.string s2),gx (.int .i64 (s1.size : Nat)),gx (.int .i64 (s2.size : Nat)),gx (.bool r)]) tys_ok mixed []
   [gbInt .leq 3 .i64 (.sym 4) (.lit (.int .i64 1024)) _ _ true (by simp [cmpB]; omega) rfl rfl,gb .leq 3 (.c (.sym 5)) (.c (.lit (.int .i64 1024))) (.sym 6) (int_cmp .leq _ .i64 _ _ r (by simp [cmpB,hr,h1]; omega)) rfl rfl rfl]
   [goLenS 9 Tryz.underlying9 (.sym 1) s1 (.sym 4) rfl rfl rfl,goLenS 9 Tryz.underlying9 (.sym 3) s2 (.sym 5) rfl rfl rfl]
   Tryz.func67 100 [.row [.sym 0,.sym 1,.sym 2,.sym 3]] (.r (.c (.sym 6))) (by kernel_rfl) rfl rfl
 ·have hr' : r = false := by rw [hr]; simp [h1]
  subst hr'
  exact ev_pure (hp := false) (L := [gx (.bool n1),gx (.string s1),gx (.bool n2),gx (.string s2),gx (.int .i64 (s1.size : Nat))]) tys_ok mixed []
   [gbInt .leq 3 .i64 (.sym 4) (.lit (.int .i64 1024)) _ _ false (by simp [cmpB]; omega) rfl rfl]
   [goLenS 9 Tryz.underlying9 (.sym 1) s1 (.sym 4) rfl rfl rfl]
   Tryz.func67 100 [.row [.sym 0,.sym 1,.sym 2,.sym 3]] (.r (.c (.lit (.bool false)))) (by kernel_rfl) rfl rfl
theorem wform_cells {neg : Bool} {s : ByteArray} (h : WForm neg s) : neg = decide (sgn neg (numS s) < 0) ∧ s = strN (sgn neg (numS s)).natAbs := by
 have := h.enc
 unfold encZ at this
 simpa using this
theorem wform_z (z : Int) : WForm (decide (z < 0)) (strN z.natAbs) := by
 refine ⟨fun h0 => ?_,noLead_strN _⟩
 have h1 := (numS_zero (noLead_strN z.natAbs)).2 h0
 rw [numS_strN] at h1
 simp; omega
theorem WL.str {n : Nat} {s : ByteArray} {k : Nat} (h : numS s = n) (hs : s.size ≤ k) : WL n k := Nat.le_trans (wl_size h) hs
theorem fformed (n1 n2 : Bool) (s1 s2 : ByteArray) (h1 : s1.size ≤ 536870912) (h2 : s2.size ≤ 536870912) (r : Bool) (hr : r = true ↔ ∃ q : Rat,Value.agg #[.bool n1,.string s1,.bool n2,.string s2] = encF q) :
    PureC Tryz.prog 72 [.agg #[.bool n1,.string s1,.bool n2,.string s2]] (.bool r) := by
  by_cases w1 : WForm n1 s1
  · by_cases w2 : WForm n2 s2
    · obtain ⟨e1,e2⟩ := wform_cells w1
      obtain ⟨e3,e4⟩ := wform_cells w2
      have la : WL (sgn n1 (numS s1)).natAbs 536870912 := by rw [natAbs_sgn]; exact WL.str rfl h1
      have lb : WL (sgn n2 (numS s2)).natAbs 536870912 := by rw [natAbs_sgn]; exact WL.str rfl h2
      obtain ⟨a,ha⟩ : ∃ a,a = sgn n1 (numS s1) := ⟨_,rfl⟩
      obtain ⟨b,hb⟩ : ∃ b,b = sgn n2 (numS s2) := ⟨_,rfl⟩
      rw [← ha] at e1 e2 la
      rw [← hb] at e3 e4 lb
      clear ha hb
      subst e1; subst e2; subst e3; subst e4
      have hq : (∃ q : Rat,Value.agg #[.bool (decide (a < 0)),.string (strN a.natAbs),.bool (decide (b < 0)),.string (strN b.natAbs)] = encF q) ↔ 0 < b ∧ Nat.gcd a.natAbs b.natAbs = 1 := by
        constructor
        · rintro ⟨q,hq⟩
          obtain ⟨k1,k2,k3,k4⟩ := encF_parts hq
          have k5 := strN_inj k4
          have k6 := strN_inj k2
          have k7 := q.den_nz
          have k8 := q.reduced
          have k9 : ¬ b < 0 := by simpa using k3
          refine ⟨by omega,?_⟩
          rw [k5,k6]; exact k8
        · rintro ⟨k1,k2⟩
          refine ⟨⟨a,b.natAbs,by omega,k2⟩,?_⟩
          unfold encF
          have : ¬ b < 0 := by omega
          simp [this]
      rw [hq] at hr
      have f1 := sformed (decide (a < 0)) (strN a.natAbs) true (by simp [w1])
      have f2 := sformed (decide (b < 0)) (strN b.natAbs) true (by simp [w2])
      by_cases hb : 0 < b
      · have ho := sof 1 (by decide) (by decide)
        have hg := sgcd a b la lb
        obtain ⟨g,hgd⟩ : ∃ g,g = Nat.gcd a.natAbs b.natAbs := ⟨_,rfl⟩
        rw [← hgd] at hg hr
        exact ev_pure (hp := false) (L := cz a ++ cz b ++ cz (g : Int) ++ cz 1 ++ [gx (.bool r),gx (.int .i64 b.sign)]) tys_ok mixed
          [gp 100 [.row (zA 0)] (.r (.c (.lit (.bool true)))) (enters_of Tryz.func100 (by kernel_rfl)) f1 rfl rfl,
           gp 100 [.row (zA 2)] (.r (.c (.lit (.bool true)))) (enters_of Tryz.func100 (by kernel_rfl)) f2 rfl rfl,
           gp 74 [.row (zA 2)] (.r (.c (.sym 9))) (enters_of Tryz.func74 (by kernel_rfl)) (ssign b) rfl rfl,
           gp 101 [.row (zA 0),.row (zA 2)] (.r (.row (zA 4))) (enters_of Tryz.func101 (by kernel_rfl)) hg rfl rfl,
           gp 73 [.c (.lit (.int .i64 1))] (.r (.row (zA 6))) (enters_of Tryz.func73 (by kernel_rfl)) ho rfl rfl]
          [gbInt .leq 3 .i64 (.sym 9) (.lit (.int .i64 0)) _ _ false (by rw [Int.sign_eq_one_of_pos hb]; rfl) rfl rfl,
           gb .eql 23 (.row (zA 4)) (.row (zA 6)) (.sym 8) (agg_eql (by kernel_rfl) (fun w => run_eql_w w _ _ _ _ r (by
             rw [hr]; constructor
             · rintro ⟨_,h⟩; rw [h]; rfl
             · intro h; have := encZ_inj (x := (g : Int)) (y := 1) h; exact ⟨hb,by omega⟩))) rfl rfl rfl] []
          Tryz.func72 100 [.row (zA 0 ++ zA 2)] (.r (.c (.sym 8))) (by kernel_rfl) rfl rfl
      · have hr' : r = false := by cases r; rfl; exact absurd (hr.1 rfl).1 hb
        subst hr'
        exact ev_pure (hp := false) (L := cz a ++ cz b ++ [gx (.int .i64 b.sign)]) tys_ok mixed
          [gp 100 [.row (zA 0)] (.r (.c (.lit (.bool true)))) (enters_of Tryz.func100 (by kernel_rfl)) f1 rfl rfl,
           gp 100 [.row (zA 2)] (.r (.c (.lit (.bool true)))) (enters_of Tryz.func100 (by kernel_rfl)) f2 rfl rfl,
           gp 74 [.row (zA 2)] (.r (.c (.sym 4))) (enters_of Tryz.func74 (by kernel_rfl)) (ssign b) rfl rfl]
          [gbInt .leq 3 .i64 (.sym 4) (.lit (.int .i64 0)) _ _ true (by
            have : b.sign ≤ 0 := by rcases Int.lt_trichotomy b 0 with h | h | h <;> first | (rw [Int.sign_eq_neg_one_of_neg h]; decide) | (subst h; decide) | omega
            simp [cmpB,this]) rfl rfl] []
          Tryz.func72 100 [.row (zA 0 ++ zA 2)] (.r (.c (.lit (.bool false)))) (by kernel_rfl) rfl rfl
    · have hr' : r = false := by
        cases r; rfl
        obtain ⟨q,e⟩ := hr.1 rfl
        obtain ⟨k1,k2,k3,k4⟩ := encF_parts e
        exfalso; apply w2
        have := wform_z (q.den : Int)
        rw [show decide ((q.den : Int) < 0) = false by simp] at this
        rw [k3,k4]; simpa using this
      subst hr'
      exact ev_pure (hp := false) (L := [gx (.bool n1),gx (.string s1),gx (.bool n2),gx (.string s2)]) tys_ok mixed
        [gp 100 [.row (zA 0)] (.r (.c (.lit (.bool true)))) (enters_of Tryz.func100 (by kernel_rfl)) (sformed n1 s1 true (by simp [w1])) rfl rfl,
         gp 100 [.row (zA 2)] (.r (.c (.lit (.bool false)))) (enters_of Tryz.func100 (by kernel_rfl)) (sformed n2 s2 false (by simp [w2])) rfl rfl] [] []
        Tryz.func72 100 [.row (zA 0 ++ zA 2)] (.r (.c (.lit (.bool false)))) (by kernel_rfl) rfl rfl
  · have hr' : r = false := by
      cases r; rfl
      obtain ⟨q,e⟩ := hr.1 rfl
      obtain ⟨k1,k2,k3,k4⟩ := encF_parts e
      exfalso; apply w1
      rw [k1,k2]; exact wform_z _
    subst hr'
    exact ev_pure (hp := false) (L := [gx (.bool n1),gx (.string s1),gx (.bool n2),gx (.string s2)]) tys_ok mixed
      [gp 100 [.row (zA 0)] (.r (.c (.lit (.bool false)))) (enters_of Tryz.func100 (by kernel_rfl)) (sformed n1 s1 false (by simp [w1])) rfl rfl] [] []
      Tryz.func72 100 [.row (zA 0 ++ zA 2)] (.r (.c (.lit (.bool false)))) (by kernel_rfl) rfl rfl
theorem fmay (n1 n2 : Bool) (s1 s2 : ByteArray) (r : Bool) (hr : r = true ↔ FracOk (.agg #[.bool n1,.string s1,.bool n2,.string s2])) :
    PureC Tryz.prog 45 [.agg #[.bool n1,.string s1,.bool n2,.string s2]] (.bool r) := by
  by_cases h : s1.size ≤ 1024 ∧ s2.size ≤ 1024
  · have hf := fformed n1 n2 s1 s2 (by omega) (by omega) r (by
      rw [hr]
      constructor
      · rintro ⟨q,e,_⟩; exact ⟨q,e⟩
      · rintro ⟨q,e⟩
        obtain ⟨k1,k2,k3,k4⟩ := encF_parts e
        exact ⟨q,e,by rw [← k2]; exact h.1,by rw [← k4]; exact h.2⟩)
    exact ev_pure (hp := false) (L := [gx (.bool n1),gx (.string s1),gx (.bool n2),gx (.string s2),gx (.bool r)]) tys_ok mixed
      [gp 67 [.row (zA 0 ++ zA 2)] (.r (.c (.lit (.bool true)))) (enters_of Tryz.func67 (by kernel_rfl)) (ffits n1 n2 s1 s2 true (by simp [h])) rfl rfl,
       gp 72 [.row (zA 0 ++ zA 2)] (.r (.c (.sym 4))) (enters_of Tryz.func72 (by kernel_rfl)) hf rfl rfl] [] []
      Tryz.func45 100 [.row (zA 0 ++ zA 2)] (.r (.c (.sym 4))) (by kernel_rfl) rfl rfl
  · have hr' : r = false := by
      cases r; rfl
      obtain ⟨q,e,k⟩ := hr.1 rfl
      obtain ⟨k1,k2,k3,k4⟩ := encF_parts e
      exfalso; apply h
      rw [k2,k4]; exact k
    subst hr'
    exact ev_pure (hp := false) (L := [gx (.bool n1),gx (.string s1),gx (.bool n2),gx (.string s2)]) tys_ok mixed
      [gp 67 [.row (zA 0 ++ zA 2)] (.r (.c (.lit (.bool false)))) (enters_of Tryz.func67 (by kernel_rfl)) (ffits n1 n2 s1 s2 false (by simp [h])) rfl rfl] [] []
      Tryz.func45 100 [.row (zA 0 ++ zA 2)] (.r (.c (.lit (.bool false)))) (by kernel_rfl) rfl rfl
end Go.Proofs.YteljkhfbgliokaaGreat
