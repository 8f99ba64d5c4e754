/- Laws for the walk. -/
import Derived.Test.YteljkhfbgliokaaGreatZzz
import Derived.Test.YteljkhfbgliokaaGreatZba
import Derived.Test.YteljkhfbgliokaaGreatZbc
set_option linter.unusedVariables false
namespace Go.Proofs.YteljkhfbgliokaaGreat
open Go.RowKit Tr
theorem tI {p : Prop} (h : p) : true = true ↔ p := ⟨fun _ => h,fun _ => rfl⟩
theorem fI {p : Prop} (h : ¬ p) : false = true ↔ p := ⟨fun e => (by cases e),fun e => absurd e h⟩
def gr (q : Rat) : GF where
 R := RatP q
 int := false
 keeps := RatP.keeps q
 cell := fun v w A h => by obtain ⟨b,rfl,_⟩ := h; rfl
 noint := fun _ v w A h k x => by obtain ⟨b,rfl,_⟩ := h; simp
 ex := none
 exact := fun u e => by cases e
def gro (q : Rat) : GF where
 R := RatO q
 int := false
 keeps := RatO.keeps q
 cell := fun v w A h => by rcases h with ⟨rfl,_⟩ | ⟨b,rfl,_⟩ <;> rfl
 noint := fun _ v w A h k x => by rcases h with ⟨rfl,_⟩ | ⟨b,rfl,_⟩ <;> simp
 ex := none
 exact := fun u e => by cases e
def rF (q : Rat) : List GF := [gx (.bool (decide (q.num < 0))),gx (.string (strN q.num.natAbs)),gx (.bool false),gx (.string (strN q.den))]
def rG (z : QC) : List GF := rF z.re ++ rF z.im
def cq (z : QC) : List GF := [gr z.re,gr z.im]
def cn (z : QC) : List GF := [gro z.re,gro z.im]
section
variable {w : World} {A : Nat → Prop} {v : Value}
theorem okg_cons {g : GF} {l : List GF} {vs : List Value} : okg (g :: l) vs w A ↔ ∃ u us,vs = u :: us ∧ g.R u w A ∧ okg l us w A := by
 cases vs with
 | nil => exact ⟨fun h => h.elim,fun ⟨_,_,e,_⟩ => by cases e⟩
 | cons u us => exact ⟨fun h => ⟨u,us,rfl,h.1,h.2⟩,fun ⟨_,_,e,h⟩ => by cases e; exact h⟩
theorem okg_nil {vs : List Value} : okg [] vs w A ↔ vs = [] := by
 cases vs with
 | nil => exact ⟨fun _ => rfl,fun _ => trivial⟩
 | cons u us => exact ⟨fun h => h.elim,fun e => by cases e⟩
theorem cq_iff {z : QC} : (FR.row (cq z)).R v w A ↔ CQ z v w A := by
 constructor
 ·rintro ⟨vs,rfl,h⟩
  obtain ⟨u1,_,rfl,h1,h⟩ := okg_cons.1 h
  obtain ⟨u2,_,rfl,h2,h⟩ := okg_cons.1 h
  cases okg_nil.1 h
  exact ⟨u1,u2,rfl,h1,h2⟩
 ·rintro ⟨u1,u2,rfl,h1,h2⟩
  exact ⟨[u1,u2],rfl,h1,h2,trivial⟩
theorem cn_iff {z : QC} : (FR.row (cn z)).R v w A ↔ NumO z.re z.im v w A := by
 constructor
 ·rintro ⟨vs,rfl,h⟩
  obtain ⟨u1,_,rfl,h1,h⟩ := okg_cons.1 h
  obtain ⟨u2,_,rfl,h2,h⟩ := okg_cons.1 h
  cases okg_nil.1 h
  exact ⟨u1,u2,rfl,h1,h2⟩
 ·rintro ⟨u1,u2,rfl,h1,h2⟩
  exact ⟨[u1,u2],rfl,h1,h2,trivial⟩
theorem pq_iff {x y : QC} : (FR.row (cq x ++ cq y)).R v w A ↔ PQ x y v w A := by
 constructor
 ·rintro ⟨vs,rfl,h⟩
  obtain ⟨u1,_,rfl,h1,h⟩ := okg_cons.1 h
  obtain ⟨u2,_,rfl,h2,h⟩ := okg_cons.1 h
  obtain ⟨u3,_,rfl,h3,h⟩ := okg_cons.1 h
  obtain ⟨u4,_,rfl,h4,h⟩ := okg_cons.1 h
  cases okg_nil.1 h
  exact ⟨u1,u2,u3,u4,rfl,h1,h2,h3,h4⟩
 ·rintro ⟨u1,u2,u3,u4,rfl,h1,h2,h3,h4⟩
  exact ⟨[u1,u2,u3,u4],rfl,h1,h2,h3,h4,trivial⟩
end
def RawG.Sz (g : RawG) : Prop := g.s1.size ≤ 1000000000 ∧ g.s2.size ≤ 1000000000 ∧ g.s3.size ≤ 1000000000 ∧ g.s4.size ≤ 1000000000
def RawP.Sz (p : RawP) : Prop := p.g.Sz
def flA (l : List (List AC)) : List AC := l.flatten
def zFA : List AC := [.lit (.bool false),.lit .str0,.lit (.bool false),.lit .str0]
def zGA : List AC := zFA ++ zFA
def zPA : List AC := .lit (.bool false) :: zGA
def zFG : List GF := [gl (.bool false),gl .str0,gl (.bool false),gl .str0]
def zGG : List GF := zFG ++ zFG
def zPG : List GF := gl (.bool false) :: zGG
def Q1 (z : QC) : FR := .row (cq z)
def B1 (b : Bool) : FV := .r (.c (gx (.bool b)))
theorem pGMay (g : RawG) (hs : g.Sz) (r : Bool) (hr : r = true ↔ GOk g.val) : SpecC Tryz.prog true 19 [.row g.cells] (B1 r) :=
 spec1 (enters_of Tryz.func19 (by kernel_rfl)) fun w A u _ _ hu => by
  obtain ⟨l1,l2,l3,l4⟩ := hs
  rw [(FR.val_ok (u := g.val) (x := .row g.cells) (by kernel_rfl)).1 hu]
  refine (GMay_any g.n1 g.n2 g.n3 g.n4 g.s1 g.s2 g.s3 g.s4 (by omega) (by omega) (by omega) (by omega) w).mono fun r' w' h => ⟨_,h.1,?_,h.2⟩
  show Value.bool _ = Value.bool r
  congr 1
  rw [Bool.eq_iff_iff,hr,gOk_iff,Bool.and_eq_true,okB_iff,okB_iff]
theorem pGZero (g : RawG) (r : Bool) (hr : r = true ↔ g = rawQ ⟨0,0⟩) : SpecC Tryz.prog true 20 [.row g.cells] (B1 r) :=
 spec1 (enters_of Tryz.func20 (by kernel_rfl)) fun w A u _ _ hu => by
  rw [(FR.val_ok (u := g.val) (x := .row g.cells) (by kernel_rfl)).1 hu]
  refine (GZero_any g.n1 g.n2 g.n3 g.n4 g.s1 g.s2 g.s3 g.s4 r ?_ w).mono fun r' w' h => ⟨_,h.1,rfl,h.2⟩
  rw [hr]
  exact ⟨fun h => by rw [h]; rfl,fun h => rawG_inj (by rw [rawQ_val]; exact h)⟩
theorem pGInt (i j : Int) (a1 : -9223372036854775808 ≤ i) (a2 : i < 9223372036854775808) (b1 : -9223372036854775808 ≤ j) (b2 : j < 9223372036854775808) : SpecC Tryz.prog false 12 [.c (gx (.int .i64 i)),.c (gx (.int .i64 j))] (.r (.row (rawQ ⟨(i : Rat),(j : Rat)⟩).cells)) :=
 spec_pure (enters_of Tryz.func12 (by kernel_rfl)) (vs := [.int .i64 i,.int .i64 j]) (v := encG (i : Rat) (j : Rat)) (fun w => GInt_any i j a1 a2 b1 b2 w) (by kernel_rfl) (by kernel_rfl)
theorem pSMay (p : RawP) (hs : p.Sz) (r : Bool) (hr : r = true ↔ POk p.val) : SpecC Tryz.prog true 18 [.row p.cells] (B1 r) :=
 spec1 (enters_of Tryz.func18 (by kernel_rfl)) fun w A u _ _ hu => by
  obtain ⟨l1,l2,l3,l4⟩ := hs
  rw [(FR.val_ok (u := p.val) (x := .row p.cells) (by kernel_rfl)).1 hu]
  obtain ⟨i,g⟩ := p
  cases i
  ·refine (SMay_num g.n1 g.n2 g.n3 g.n4 g.s1 g.s2 g.s3 g.s4 (by simp only at l1; omega) (by simp only at l2; omega) (by simp only at l3; omega) (by simp only at l4; omega) w).mono fun r' w' h => ⟨_,h.1,?_,h.2⟩
   show Value.bool _ = Value.bool r
   congr 1
   rw [Bool.eq_iff_iff,hr,pOk_num (p := ⟨false,g⟩) rfl,gOk_iff,Bool.and_eq_true,okB_iff,okB_iff]
  ·refine (SMay_inf g.n1 g.n2 g.n3 g.n4 g.s1 g.s2 g.s3 g.s4 r ?_ w).mono fun r' w' h => ⟨_,h.1,rfl,h.2⟩
   rw [hr]; exact pOk_inf (p := ⟨true,g⟩) rfl
theorem pMul (x y : QC) {m l : Nat} (hx : ZL x m) (hy : ZL y l) (hb : m + l + (m + l) < 137438953472) : SpecC Tryz.prog true 54 [Q1 x,Q1 y] (.r (Q1 (x * y))) :=
 spec2 (enters_of Tryz.func54 (by kernel_rfl)) fun w A u v hR _ hu hv => (QMul_any x y u v A w (cq_iff.1 hu) (cq_iff.1 hv) (hR rfl) m l hx hy hb).mono fun e w' ⟨z,h1,h2,h3⟩ => ⟨z,h1,cq_iff.2 h3,h2⟩
theorem pAdd (x y : QC) {m l : Nat} (hx : ZL x m) (hy : ZL y l) (hb : m + l < 137438953472) : SpecC Tryz.prog true 55 [Q1 x,Q1 y] (.r (Q1 (x + y))) :=
 spec2 (enters_of Tryz.func55 (by kernel_rfl)) fun w A u v hR _ hu hv => (QAdd_any x y u v A w (cq_iff.1 hu) (cq_iff.1 hv) (hR rfl) m l hx hy hb).mono fun e w' ⟨z,h1,h2,h3⟩ => ⟨z,h1,cq_iff.2 h3,h2⟩
theorem pSub (x y : QC) {m l : Nat} (hx : ZL x m) (hy : ZL y l) (hb : m + l < 137438953472) : SpecC Tryz.prog true 83 [Q1 x,Q1 y] (.r (Q1 (x - y))) :=
 spec2 (enters_of Tryz.func83 (by kernel_rfl)) fun w A u v hR _ hu hv => (QSub_any x y u v A w (cq_iff.1 hu) (cq_iff.1 hv) (hR rfl) m l hx hy hb).mono fun e w' ⟨z,h1,h2,h3⟩ => ⟨z,h1,cq_iff.2 h3,h2⟩
theorem pPSame (x1 y1 x2 y2 : QC) {m l : Nat} (l1 : ZL x1 m) (l2 : ZL y1 m) (l3 : ZL x2 l) (l4 : ZL y2 l) (hb : m + l + (m + l) + 1 + (l + m + (l + m) + 1) < 137438953472) (r : Bool) (hr : r = true ↔ x1 * y2 = x2 * y1) : SpecC Tryz.prog true 52 [.row (cq x1 ++ cq y1),.row (cq x2 ++ cq y2)] (B1 r) :=
 spec2 (enters_of Tryz.func52 (by kernel_rfl)) fun w A u v hR _ hu hv => (PSame_any x1 y1 x2 y2 u v A w (pq_iff.1 hu) (pq_iff.1 hv) m l l1 l2 l3 l4 hb r hr).mono fun e w' h => ⟨_,h.1,rfl,h.2⟩
def outR (x y : QC) : RawP := if y = ⟨0,0⟩ then rawPt none else if ShortF (x / y).re ∧ ShortF (x / y).im then rawPt (some (x / y)) else ⟨false,zeroG⟩
theorem outR_val (x y : QC) : (outR x y).val = outP x y := by
 unfold outR outP
 split
 ·rfl
 ·split
  ·rfl
  ·rfl
theorem pPPoint (x y : QC) {m l : Nat} (lx : ZL x m) (ly : ZL y l) (hb : (m + l + (m + l) + 1) + (l + l + (l + l) + 1) < 137438953472) : SpecC Tryz.prog true 34 [.row (cq x ++ cq y)] (.tup [.row (outR x y).cells,.c (gx (.int .i64 (outPC x y)))]) :=
 spec1 (enters_of Tryz.func34 (by kernel_rfl)) fun w A u _ _ hu => (PPoint_any x y u A w (pq_iff.1 hu) m l lx ly hb).mono fun e w' h => ⟨_,h.1,(FV.val_ok (u := .tuple #[(outR x y).val,.int .i64 (outPC x y)]) (x := .tup [.row (outR x y).cells,.c (gx (.int .i64 (outPC x y)))]) (by kernel_rfl)).2 (by rw [outR_val]),h.2⟩
theorem strN_den (q : Rat) : numS (strN q.den) ≠ 0 := by rw [numS_strN]; exact q.den_nz
theorem divInt_str (q : Rat) : Rat.divInt (sgn (decide (q.num < 0)) (numS (strN q.num.natAbs))) (sgn false (numS (strN q.den))) = q := by
 rw [numS_strN,numS_strN,sgn_self]
 exact Rat.num_divInt_den q
theorem size_short {n : Nat} (h : (strN n).size ≤ 1024) : (strN n).size < 274877906944 := by omega
theorem pOf (z : QC) (h : ShortZ z) : SpecC Tryz.prog true 28 [.row (rawQ z).cells] (.r (Q1 z)) :=
 spec1 (enters_of Tryz.func28 (by kernel_rfl)) fun w A u hR _ hu => by
  rw [(FR.val_ok (u := (rawQ z).val) (x := .row (rawQ z).cells) (by kernel_rfl)).1 hu]
  have := XOf_any (decide (z.re.num < 0)) false (decide (z.im.num < 0)) false (strN z.re.num.natAbs) (strN z.re.den) (strN z.im.num.natAbs) (strN z.im.den) (strN_den _) (strN_den _) (size_short h.1.1) (size_short h.1.2) (size_short h.2.1) (size_short h.2.2) A w (hR rfl)
  rw [divInt_str,divInt_str] at this
  exact this.mono fun e w' ⟨u,h1,h2,h3⟩ => ⟨u,h1,cq_iff.2 h3,h2⟩
theorem point_of (p : Pt) (h : ShortP p) (A : Nat → Prop) (w : World) (hA : Rcv A w) : Calls Tryz.prog 29 #[(rawPt p).val] w fun e w' => ∃ u,e = .returned u ∧ Below w.heap.size w w' ∧ PQ (ptX p) (ptY p) u w' A := by
 cases p with
 | none => exact XPoint_any true false false false false ⟨#[]⟩ ⟨#[]⟩ ⟨#[]⟩ ⟨#[]⟩ (fun h => by cases h) (fun h => by cases h) (by decide) (by decide) (by decide) (by decide) A w hA 1 0 0 rfl rfl rfl
 | some z => exact XPoint_any false (decide (z.re.num < 0)) false (decide (z.im.num < 0)) false (strN z.re.num.natAbs) (strN z.re.den) (strN z.im.num.natAbs) (strN z.im.den) (fun _ => strN_den _) (fun _ => strN_den _) (size_short h.1.1) (size_short h.1.2) (size_short h.2.1) (size_short h.2.2) A w hA z.re z.im 1 (by rw [divInt_str]; rfl) (by rw [divInt_str]; rfl) rfl
theorem pPoint (p : Pt) (h : ShortP p) : SpecC Tryz.prog true 29 [.row (rawPt p).cells] (.r (.row (cq (ptX p) ++ cq (ptY p)))) :=
 spec1 (enters_of Tryz.func29 (by kernel_rfl)) fun w A u hR _ hu => by
  rw [(FR.val_ok (u := (rawPt p).val) (x := .row (rawPt p).cells) (by kernel_rfl)).1 hu]
  exact (point_of p h A w (hR rfl)).mono fun e w' ⟨u,h1,h2,h3⟩ => ⟨u,h1,pq_iff.2 h3,h2⟩
def bI {P : Program} {L : List GF} (op : BinOp) (t : TypeId) (x y : AC) (a b : Int) (c : Bool) (h : cmpB op a b = some c) (hx : x.gv L = some (.int .i64 a) := by kernel_rfl) (hy : y.gv L = some (.int .i64 b) := by kernel_rfl) : GB P L := gbInt op t .i64 x y a b c h hx hy
section
variable {L : List GF}
def bG (x y : AR) (g h : RawG) (r : Bool) (hr : r = true ↔ g = h) (hx : x.gv L = some g.val := by kernel_rfl) (hy : y.gv L = some h.val := by kernel_rfl) : GB Tryz.prog L :=
 gb .eql 27 x y (.lit (.bool r)) (agg_eql (by kernel_rfl) (fun w => run_eql_rg w g h r (by rw [hr]; exact ⟨fun e => by rw [e],rawG_inj⟩))) hx hy rfl
def bGn (x y : AR) (g h : RawG) (r : Bool) (hr : r = true ↔ g = h) (hx : x.gv L = some g.val := by kernel_rfl) (hy : y.gv L = some h.val := by kernel_rfl) : GB Tryz.prog L :=
 gb .neq 27 x y (.lit (.bool !r)) (agg_neq (by kernel_rfl) (fun w => run_eql_rg w g h r (by rw [hr]; exact ⟨fun e => by rw [e],rawG_inj⟩))) hx hy rfl
def bP (x y : AR) (p q : RawP) (r : Bool) (hr : r = true ↔ p = q) (hx : x.gv L = some p.val := by kernel_rfl) (hy : y.gv L = some q.val := by kernel_rfl) : GB Tryz.prog L :=
 gb .eql 29 x y (.lit (.bool r)) (agg_eql (by kernel_rfl) (fun w => run_eql_rp w p q r (by rw [hr]; exact ⟨fun e => by rw [e],rawP_inj⟩))) hx hy rfl
def bPn (x y : AR) (p q : RawP) (r : Bool) (hr : r = true ↔ p = q) (hx : x.gv L = some p.val := by kernel_rfl) (hy : y.gv L = some q.val := by kernel_rfl) : GB Tryz.prog L :=
 gb .neq 29 x y (.lit (.bool !r)) (agg_neq (by kernel_rfl) (fun w => run_eql_rp w p q r (by rw [hr]; exact ⟨fun e => by rw [e],rawP_inj⟩))) hx hy rfl
end
theorem shortF_lt {q : Rat} (h1 : q.num.natAbs < 256 ^ 1024) (h2 : q.den < 256 ^ 1024) : ShortF q := ⟨by rw [size_strN]; exact byteLE_le h1,by rw [size_strN]; exact byteLE_le h2⟩
theorem short_c {z : QC} (h : (z.re.num.natAbs < 256 ^ 1024 ∧ z.re.den < 256 ^ 1024) ∧ z.im.num.natAbs < 256 ^ 1024 ∧ z.im.den < 256 ^ 1024) : ShortZ z := ⟨shortF_lt h.1.1 h.1.2,shortF_lt h.2.1 h.2.2⟩
theorem sz_short {z : QC} (h : ShortZ z) : (rawQ z).Sz := by
 obtain ⟨⟨h1,h2⟩,h3,h4⟩ := h
 exact ⟨Nat.le_trans h1 (by decide),Nat.le_trans h2 (by decide),Nat.le_trans h3 (by decide),Nat.le_trans h4 (by decide)⟩
theorem sz_shortP {p : Pt} (h : ShortP p) : (rawPt p).Sz := by
 cases p with
 | none => exact ⟨by decide,by decide,by decide,by decide⟩
 | some z => exact sz_short h
theorem rawQ_inj {z w : QC} : rawQ z = rawQ w ↔ z = w := ⟨fun h => encQ_inj' (by rw [← rawQ_val,← rawQ_val,h]),fun h => by rw [h]⟩
end Go.Proofs.YteljkhfbgliokaaGreat
namespace Go.Proofs.YteljkhfbgliokaaGreat
open Go.RowKit Tr
def G1 (z : QC) : FR := .row (rG z)
def S1 (x y : QC) : FR := .row (rG x ++ rG y)
theorem rGMay (g : RawG) (r : Bool) (hr : r = true ↔ GOk g.val) : SpecC Tryz.prog false 23 [.row g.cells] (B1 r) := spec_pure (enters_of Tryz.func23 (by kernel_rfl)) (gmay g r hr) (by kernel_rfl) (by kernel_rfl)
theorem rZero (z : QC) (r : Bool) (hr : r = true ↔ z = ⟨0,0⟩) : SpecC Tryz.prog false 25 [G1 z] (B1 r) := spec_pure (enters_of Tryz.func25 (by kernel_rfl)) (gzero z r hr) (by kernel_rfl) (by kernel_rfl)
theorem rZeroR (g : RawG) (h : GOk g.val) (r : Bool) (hr : r = true ↔ g = rawQ ⟨0,0⟩) : SpecC Tryz.prog false 25 [.row g.cells] (B1 r) := by
 obtain ⟨z,rfl,_⟩ := gOk_raw h
 exact spec_pure (enters_of Tryz.func25 (by kernel_rfl)) (gzero z r (hr.trans rawQ_inj)) (by kernel_rfl) (by kernel_rfl)
theorem rInt (a b : Int) (a1 : -9223372036854775808 ≤ a) (a2 : a < 9223372036854775808) (b1 : -9223372036854775808 ≤ b) (b2 : b < 9223372036854775808) : SpecC Tryz.prog false 24 [.c (gx (.int .i64 a)),.c (gx (.int .i64 b))] (.r (G1 ⟨(a : Rat),(b : Rat)⟩)) := spec_pure (enters_of Tryz.func24 (by kernel_rfl)) (gint a b a1 a2 b1 b2) (by kernel_rfl) (by kernel_rfl)
theorem rTimes (x y : QC) (hx : ZL x 33554432) (hy : ZL y 33554432) : SpecC Tryz.prog false 38 [G1 x,G1 y] (.r (G1 (x * y))) := spec_pure (enters_of Tryz.func38 (by kernel_rfl)) (gtimes x y hx hy) (by kernel_rfl) (by kernel_rfl)
theorem rPlus (x y : QC) (hx : ZL x 134217728) (hy : ZL y 134217728) : SpecC Tryz.prog false 40 [G1 x,G1 y] (.r (G1 (x + y))) := spec_pure (enters_of Tryz.func40 (by kernel_rfl)) (gplus x y hx hy) (by kernel_rfl) (by kernel_rfl)
theorem rMinus (x y : QC) (hx : ZL x 134217728) (hy : ZL y 134217728) : SpecC Tryz.prog false 62 [G1 x,G1 y] (.r (G1 (x - y))) := spec_pure (enters_of Tryz.func62 (by kernel_rfl)) (gminus x y hx hy) (by kernel_rfl) (by kernel_rfl)
theorem rPMay (p : RawP) (r : Bool) (hr : r = true ↔ POk p.val) : SpecC Tryz.prog false 22 [.row p.cells] (B1 r) := spec_pure (enters_of Tryz.func22 (by kernel_rfl)) (pmay p r hr) (by kernel_rfl) (by kernel_rfl)
theorem rSpot (p : Pt) : SpecC Tryz.prog false 15 [.row (rawPt p).cells] (.r (S1 (ptX p) (ptY p))) := spec_pure (enters_of Tryz.func15 (by kernel_rfl)) (spotof' p) (by kernel_rfl) (by kernel_rfl)
theorem rSame (x0 y0 x1 y1 : QC) (h0 : ZL x0 33554432) (h1 : ZL y0 33554432) (h2 : ZL x1 33554432) (h3 : ZL y1 33554432) (r : Bool) (hr : r = true ↔ x0 * y1 = x1 * y0) : SpecC Tryz.prog false 37 [S1 x0 y0,S1 x1 y1] (B1 r) := spec_pure (enters_of Tryz.func37 (by kernel_rfl)) (ssame x0 y0 x1 y1 h0 h1 h2 h3 r hr) (by kernel_rfl) (by kernel_rfl)
theorem rPoint (x y : QC) (hx : ZL x 6000000) (hy : ZL y 6000000) : SpecC Tryz.prog false 17 [S1 x y] (.tup [.row (outR x y).cells,.c (gx (.int .i64 (outPC x y)))]) := spec_pure (enters_of Tryz.func17 (by kernel_rfl)) (by have := spoint x y hx hy; rw [← outR_val] at this; exact this) (by kernel_rfl) (by kernel_rfl)
end Go.Proofs.YteljkhfbgliokaaGreat
