/- Laws for the walk. -/
import Derived.Test.YteljkhfbgliokaaGreatZzz
import Derived.Test.YteljkhfbgliokaaGreatZbd
import Derived.Test.YteljkhfbgliokaaGreatZbe
import Derived.ChangeKeysEq
set_option linter.unusedVariables false
namespace Go.Proofs.YteljkhfbgliokaaGreat
open Go.RowKit Tr
theorem conv_err (v : Int) (hv : 0 ≤ v ∧ v ≤ 1000) : ∀ w,(convert 34 3 (.int .i64 v)).run Tryz.prog w = .ok (.int .i64 v) w := by
 have hm : IntKind.i64.wrap v = v := by
  obtain ⟨h1,h2⟩ := hv
  simp [IntKind.wrap,IntKind.signed,IntKind.bits]
  omega
 intro w
 simp [convert,run_underlying Tryz.underlying34,run_underlying Tryz.underlying3,Conv.intToInt,hm]
def goErr {L : List GF} (v : Int) (x : AC) (hv : 0 ≤ v ∧ v ≤ 1000) (hx : x.gv L = some (.int .i64 v) := by kernel_rfl) : GO Tryz.prog L :=
 goConv 34 3 (.c x) x (vx := .int .i64 v) (v := .int .i64 v) (conv_err v hv) hx hx
def Sz (s : ByteArray) : Int := (s.size : Nat)
def lS {L : List GF} (x : AC) (s : ByteArray) (res : AC) (hn : x.noown = true := by kernel_rfl) (hx : x.gv L = some (.string s) := by kernel_rfl) (hr : res.gv L = some (.int .i64 (Sz s)) := by kernel_rfl) : GO Tryz.prog L :=
 goLenS 9 Tryz.underlying9 x s res hn hx hr
def gtY {P : Program} {L : List GF} (t : TypeId) (x y : AC) (a b : Int) (h : a > b) (hx : x.gv L = some (.int .i64 a) := by kernel_rfl) (hy : y.gv L = some (.int .i64 b) := by kernel_rfl) : GB P L := gbInt .gtr t .i64 x y a b true (congrArg some (decide_eq_true h)) hx hy
def gtN {P : Program} {L : List GF} (t : TypeId) (x y : AC) (a b : Int) (h : ¬ a > b) (hx : x.gv L = some (.int .i64 a) := by kernel_rfl) (hy : y.gv L = some (.int .i64 b) := by kernel_rfl) : GB P L := gbInt .gtr t .i64 x y a b false (congrArg some (decide_eq_false h)) hx hy
set_option maxRecDepth 100000 in
set_option maxHeartbeats 1600000 in
theorem run_eql_3 (w : World) (p q s : RawP) : (binOp .eql 37 (.agg (p.vals ++ q.vals ++ s.vals).toArray) (.agg (p.vals ++ q.vals ++ s.vals).toArray)).run Tryz.prog w = .ok (.bool true) w := by
 obtain ⟨i,n1,n2,n3,n4,s1,s2,s3,s4⟩ := p
 obtain ⟨j,m1,m2,m3,m4,t1,t2,t3,t4⟩ := q
 obtain ⟨k,l1,l2,l3,l4,u1,u2,u3,u4⟩ := s
 simp only [RawP.vals,RawG.vals,List.cons_append,List.nil_append]
 go_simp
 obtain ⟨ti,hti⟩ := Option.isSome_iff_exists.1 (show (Tryz.prog.info? 29).isSome = true by kernel_rfl)
 have hc : Tryz.prog.cellsOf 29 = 9 := by kernel_rfl
 rw [show (10000 : Nat) = 9999 + 1 from rfl,run_equalIn_array (P := Tryz.prog) w 9999 _ _ Tryz.underlying37 hti]
 simp only [Op.eqItems,show List.range 3 = [0,1,2] from rfl,hc]
 go_simp
def bP3 {L : List GF} (x y : AR) (p q s : RawP) (hx : x.gv L = some (.agg (p.vals ++ q.vals ++ s.vals).toArray) := by kernel_rfl) (hy : y.gv L = some (.agg (p.vals ++ q.vals ++ s.vals).toArray) := by kernel_rfl) : GB Tryz.prog L :=
 gb .eql 37 x y (.lit (.bool true)) (agg_eql (by kernel_rfl) (fun w => run_eql_3 w p q s)) hx hy rfl
theorem outR_is {x y z : QC} (h0 : y ≠ ⟨0,0⟩) (hz : x / y = z) (hs : ShortZ z) : outR x y = rawPt (some z) := by
 subst hz
 unfold outR
 rw [if_neg h0]
 exact if_pos hs
theorem outPC_is {x y z : QC} (h0 : y ≠ ⟨0,0⟩) (hz : x / y = z) (hs : ShortZ z) : outPC x y = 0 := by
 subst hz
 unfold outPC
 rw [if_neg h0]
 exact if_pos hs
theorem outPC_two (x y : QC) : outPC x y = 0 ∨ outPC x y = 4 := by
 unfold outPC
 split
 ·exact .inl rfl
 ·split
  ·exact .inl rfl
  ·exact .inr rfl
end Go.Proofs.YteljkhfbgliokaaGreat
namespace Go.Proofs.YteljkhfbgliokaaGreat
open Go.RowKit Tr
open Classical
set_option maxHeartbeats 4000000 in
theorem lat_0_0   : SpecC Tryz.prog true 11 [.c (gl (.int .i64 0)),.c (gl (.int .i64 0))] (.r (.row ([gl (.bool false)] ++ (rawQ (⟨0,0⟩ : QC)).cells))) :=
  ev_sp (L := [(rawQ (⟨0,0⟩ : QC)).cells].flatten) tys_ok mixed
     [gs (pGInt 0 0 (by decide) (by decide) (by decide) (by decide)) [.c (.lit (.int .i64 0)),.c (.lit (.int .i64 0))] (.r (.row (syms 0 8)))]
     [] [] Tryz.func11 (enters_of Tryz.func11 (by kernel_rfl)) 2000 [.c (.lit (.int .i64 0)),.c (.lit (.int .i64 0))] (.r (.row (flA [[.lit (.bool false)],syms 0 8])))
theorem lat_0_0_b0_1  : ShortP (some (⟨0,0⟩ : QC)) := short_c (by decide +kernel)
set_option maxHeartbeats 4000000 in
theorem lat_1_0   : SpecC Tryz.prog true 11 [.c (gl (.int .i64 1)),.c (gl (.int .i64 0))] (.r (.row ([gl (.bool false)] ++ (rawQ (⟨1,0⟩ : QC)).cells))) :=
  ev_sp (L := [(rawQ (⟨1,0⟩ : QC)).cells].flatten) tys_ok mixed
     [gs (pGInt 1 0 (by decide) (by decide) (by decide) (by decide)) [.c (.lit (.int .i64 1)),.c (.lit (.int .i64 0))] (.r (.row (syms 0 8)))]
     [] [] Tryz.func11 (enters_of Tryz.func11 (by kernel_rfl)) 2000 [.c (.lit (.int .i64 1)),.c (.lit (.int .i64 0))] (.r (.row (flA [[.lit (.bool false)],syms 0 8])))
theorem lat_1_0_b0_1  : ShortP (some (⟨1,0⟩ : QC)) := short_c (by decide +kernel)
set_option maxHeartbeats 4000000 in
theorem lat_0_1   : SpecC Tryz.prog true 11 [.c (gl (.int .i64 0)),.c (gl (.int .i64 1))] (.r (.row ([gl (.bool false)] ++ (rawQ (⟨0,1⟩ : QC)).cells))) :=
  ev_sp (L := [(rawQ (⟨0,1⟩ : QC)).cells].flatten) tys_ok mixed
     [gs (pGInt 0 1 (by decide) (by decide) (by decide) (by decide)) [.c (.lit (.int .i64 0)),.c (.lit (.int .i64 1))] (.r (.row (syms 0 8)))]
     [] [] Tryz.func11 (enters_of Tryz.func11 (by kernel_rfl)) 2000 [.c (.lit (.int .i64 0)),.c (.lit (.int .i64 1))] (.r (.row (flA [[.lit (.bool false)],syms 0 8])))
theorem lat_0_1_b0_1  : ShortP (some (⟨0,1⟩ : QC)) := short_c (by decide +kernel)
set_option maxHeartbeats 4000000 in
theorem lat_1_1   : SpecC Tryz.prog true 11 [.c (gl (.int .i64 1)),.c (gl (.int .i64 1))] (.r (.row ([gl (.bool false)] ++ (rawQ (⟨1,1⟩ : QC)).cells))) :=
  ev_sp (L := [(rawQ (⟨1,1⟩ : QC)).cells].flatten) tys_ok mixed
     [gs (pGInt 1 1 (by decide) (by decide) (by decide) (by decide)) [.c (.lit (.int .i64 1)),.c (.lit (.int .i64 1))] (.r (.row (syms 0 8)))]
     [] [] Tryz.func11 (enters_of Tryz.func11 (by kernel_rfl)) 2000 [.c (.lit (.int .i64 1)),.c (.lit (.int .i64 1))] (.r (.row (flA [[.lit (.bool false)],syms 0 8])))
theorem lat_1_1_b0_1  : ShortP (some (⟨1,1⟩ : QC)) := short_c (by decide +kernel)
end Go.Proofs.YteljkhfbgliokaaGreat
