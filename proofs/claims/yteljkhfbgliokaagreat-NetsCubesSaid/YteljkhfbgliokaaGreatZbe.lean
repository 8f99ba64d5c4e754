/- Laws for the walk. -/
import Derived.Test.YteljkhfbgliokaaGreatZzz
import Derived.Test.YteljkhfbgliokaaGreatZbd
set_option linter.unusedVariables false
namespace Go.Proofs.YteljkhfbgliokaaGreat
open Go.RowKit Tr
open Classical
set_option maxHeartbeats 4000000 in
theorem ndet (x0 y0 x1 y1 : QC) (b_x0 : ZL x0 1000000) (b_y0 : ZL y0 1000000) (b_x1 : ZL x1 1000000) (b_y1 : ZL y1 1000000)  : SpecC Tryz.prog true 53 [.row (cq x0 ++ cq y0),.row (cq x1 ++ cq y1)] (.r (.row (cq ((x0 * y1) - (y0 * x1))))) :=
  ev_sp (L := [cq x0,cq y0,cq x1,cq y1,cq (x0 * y1),cq (y0 * x1),cq ((x0 * y1) - (y0 * x1))].flatten) tys_ok mixed
     [gs (pMul x0 y1 b_x0 b_y1 (by decide)) [sy [0,1],sy [6,7]] (.r (sy [8,9])),
      gs (pMul y0 x1 b_y0 b_x1 (by decide)) [sy [2,3],sy [4,5]] (.r (sy [10,11])),
      gs (pSub (x0 * y1) (y0 * x1) (ZL_mul b_x0 b_y1) (ZL_mul b_y0 b_x1) (by decide)) [sy [8,9],sy [10,11]] (.r (sy [12,13]))]
     [] [] Tryz.func53 (enters_of Tryz.func53 (by kernel_rfl)) 2000 [.row (syms 0 4),.row (syms 4 4)] (.r (sy [12,13]))
theorem ndet_b0_1 (x0 y0 x1 y1 : QC) {k : Nat} (b_x0 : ZL x0 k) (b_y0 : ZL y0 k) (b_x1 : ZL x1 k) (b_y1 : ZL y1 k) : ZL ((x0 * y1) - (y0 * x1)) (8 * k + 3) := (ZL_sub (ZL_mul b_x0 b_y1) (ZL_mul b_y0 b_x1)).mono (by omega)
def e1 (x0 : QC) (y0 : QC) (x1 : QC) (y1 : QC) (x2 : QC) (b : QC) : QC := (((x0 * y1) - (y0 * x1)) * b) * x2
theorem e1_b0 (x0 : QC) (y0 : QC) (x1 : QC) (y1 : QC) (x2 : QC) (b : QC) {k : Nat} (b_x0 : ZL x0 k) (b_y0 : ZL y0 k) (b_x1 : ZL x1 k) (b_y1 : ZL y1 k) (b_x2 : ZL x2 k) (b_b : ZL b k) : ZL (e1 x0 y0 x1 y1 x2 b) (38 * k + 15) := (ZL_mul (ZL_mul (ndet_b0_1 x0 y0 x1 y1 b_x0 b_y0 b_x1 b_y1) b_b) b_x2).mono (by omega)
def e2 (x0 : QC) (y0 : QC) (x1 : QC) (x2 : QC) (y2 : QC) (a : QC) : QC := (((x2 * y0) - (y2 * x0)) * a) * x1
theorem e2_b0 (x0 : QC) (y0 : QC) (x1 : QC) (x2 : QC) (y2 : QC) (a : QC) {k : Nat} (b_x0 : ZL x0 k) (b_y0 : ZL y0 k) (b_x1 : ZL x1 k) (b_x2 : ZL x2 k) (b_y2 : ZL y2 k) (b_a : ZL a k) : ZL (e2 x0 y0 x1 x2 y2 a) (38 * k + 15) := (ZL_mul (ZL_mul (ndet_b0_1 x2 y2 x0 y0 b_x2 b_y2 b_x0 b_y0) b_a) b_x1).mono (by omega)
def e3 (x0 : QC) (y0 : QC) (x1 : QC) (y1 : QC) (x2 : QC) (y2 : QC) (a : QC) (b : QC) : QC := (e1 x0 y0 x1 y1 x2 b) + (e2 x0 y0 x1 x2 y2 a)
theorem e3_b0 (x0 : QC) (y0 : QC) (x1 : QC) (y1 : QC) (x2 : QC) (y2 : QC) (a : QC) (b : QC) {k : Nat} (b_x0 : ZL x0 k) (b_y0 : ZL y0 k) (b_x1 : ZL x1 k) (b_y1 : ZL y1 k) (b_x2 : ZL x2 k) (b_y2 : ZL y2 k) (b_a : ZL a k) (b_b : ZL b k) : ZL (e3 x0 y0 x1 y1 x2 y2 a b) (76 * k + 31) := (ZL_add (e1_b0 x0 y0 x1 y1 x2 b b_x0 b_y0 b_x1 b_y1 b_x2 b_b) (e2_b0 x0 y0 x1 x2 y2 a b_x0 b_y0 b_x1 b_x2 b_y2 b_a)).mono (by omega)
def e4 (x0 : QC) (y0 : QC) (x1 : QC) (y1 : QC) (y2 : QC) (b : QC) : QC := (((x0 * y1) - (y0 * x1)) * b) * y2
theorem e4_b0 (x0 : QC) (y0 : QC) (x1 : QC) (y1 : QC) (y2 : QC) (b : QC) {k : Nat} (b_x0 : ZL x0 k) (b_y0 : ZL y0 k) (b_x1 : ZL x1 k) (b_y1 : ZL y1 k) (b_y2 : ZL y2 k) (b_b : ZL b k) : ZL (e4 x0 y0 x1 y1 y2 b) (38 * k + 15) := (ZL_mul (ZL_mul (ndet_b0_1 x0 y0 x1 y1 b_x0 b_y0 b_x1 b_y1) b_b) b_y2).mono (by omega)
def e5 (x0 : QC) (y0 : QC) (y1 : QC) (x2 : QC) (y2 : QC) (a : QC) : QC := (((x2 * y0) - (y2 * x0)) * a) * y1
theorem e5_b0 (x0 : QC) (y0 : QC) (y1 : QC) (x2 : QC) (y2 : QC) (a : QC) {k : Nat} (b_x0 : ZL x0 k) (b_y0 : ZL y0 k) (b_y1 : ZL y1 k) (b_x2 : ZL x2 k) (b_y2 : ZL y2 k) (b_a : ZL a k) : ZL (e5 x0 y0 y1 x2 y2 a) (38 * k + 15) := (ZL_mul (ZL_mul (ndet_b0_1 x2 y2 x0 y0 b_x2 b_y2 b_x0 b_y0) b_a) b_y1).mono (by omega)
def e6 (x0 : QC) (y0 : QC) (x1 : QC) (y1 : QC) (x2 : QC) (y2 : QC) (a : QC) (b : QC) : QC := (e4 x0 y0 x1 y1 y2 b) + (e5 x0 y0 y1 x2 y2 a)
theorem e6_b0 (x0 : QC) (y0 : QC) (x1 : QC) (y1 : QC) (x2 : QC) (y2 : QC) (a : QC) (b : QC) {k : Nat} (b_x0 : ZL x0 k) (b_y0 : ZL y0 k) (b_x1 : ZL x1 k) (b_y1 : ZL y1 k) (b_x2 : ZL x2 k) (b_y2 : ZL y2 k) (b_a : ZL a k) (b_b : ZL b k) : ZL (e6 x0 y0 x1 y1 x2 y2 a b) (76 * k + 31) := (ZL_add (e4_b0 x0 y0 x1 y1 y2 b b_x0 b_y0 b_x1 b_y1 b_y2 b_b) (e5_b0 x0 y0 y1 x2 y2 a b_x0 b_y0 b_y1 b_x2 b_y2 b_a)).mono (by omega)
set_option maxHeartbeats 4000000 in
theorem nlast (x0 y0 x1 y1 x2 y2 a b : QC) (b_x0 : ZL x0 1000000) (b_y0 : ZL y0 1000000) (b_x1 : ZL x1 1000000) (b_y1 : ZL y1 1000000) (b_x2 : ZL x2 1000000) (b_y2 : ZL y2 1000000) (b_a : ZL a 1000000) (b_b : ZL b 1000000)  : SpecC Tryz.prog true 30 [.row (cq x0 ++ cq y0),.row (cq x1 ++ cq y1),.row (cq x2 ++ cq y2),.row (cq a),.row (cq b)] (if kBad x0 y0 x1 y1 x2 y2 then .tup [.row ([gl .nilp,gl .nilp,gl .nilp,gl .nilp]),.c (gl (.int .i64 370))] else .tup [.row (cq (e3 x0 y0 x1 y1 x2 y2 a b) ++ cq (e6 x0 y0 x1 y1 x2 y2 a b)),.c (gl (.int .i64 0))]) :=
  have t1 := pPSame x0 y0 x1 y1 b_x0 b_y0 b_x1 b_y1 (by decide)
  have t2 := pPSame x1 y1 x2 y2 b_x1 b_y1 b_x2 b_y2 (by decide)
  have t3 := pPSame x2 y2 x0 y0 b_x2 b_y2 b_x0 b_y0 (by decide)
  (Classical.em (x0 * y1 = x1 * y0)).elim (fun h0 => .it (Or.inl h0) (ev_sp (L := [cq x0,cq y0,cq x1,cq y1,cq x2,cq y2,cq a,cq b].flatten) tys_ok mixed
     [gs (t1 true (tI h0)) [.row (syms 0 4),.row (syms 4 4)] (.r (.c (.lit (.bool true))))]
     [] [] Tryz.func30 (enters_of Tryz.func30 (by kernel_rfl)) 2000 [.row (syms 0 4),.row (syms 4 4),.row (syms 8 4),sy [12,13],sy [14,15]] (.tup [.row [.lit .nilp,.lit .nilp,.lit .nilp,.lit .nilp],.c (.lit (.int .i64 370))])))
   (fun h0 => (Classical.em (x1 * y2 = x2 * y1)).elim (fun h1 => .it (Or.inr (Or.inl h1)) (ev_sp (L := [cq x0,cq y0,cq x1,cq y1,cq x2,cq y2,cq a,cq b].flatten) tys_ok mixed
     [gs (t1 false (fI h0)) [.row (syms 0 4),.row (syms 4 4)] (.r (.c (.lit (.bool false)))),
      gs (t2 true (tI h1)) [.row (syms 4 4),.row (syms 8 4)] (.r (.c (.lit (.bool true))))]
     [] [] Tryz.func30 (enters_of Tryz.func30 (by kernel_rfl)) 2000 [.row (syms 0 4),.row (syms 4 4),.row (syms 8 4),sy [12,13],sy [14,15]] (.tup [.row [.lit .nilp,.lit .nilp,.lit .nilp,.lit .nilp],.c (.lit (.int .i64 370))])))
   (fun h1 => (Classical.em (x2 * y0 = x0 * y2)).elim (fun h2 => .it (Or.inr (Or.inr h2)) (ev_sp (L := [cq x0,cq y0,cq x1,cq y1,cq x2,cq y2,cq a,cq b].flatten) tys_ok mixed
     [gs (t1 false (fI h0)) [.row (syms 0 4),.row (syms 4 4)] (.r (.c (.lit (.bool false)))),
      gs (t2 false (fI h1)) [.row (syms 4 4),.row (syms 8 4)] (.r (.c (.lit (.bool false)))),
      gs (t3 true (tI h2)) [.row (syms 8 4),.row (syms 0 4)] (.r (.c (.lit (.bool true))))]
     [] [] Tryz.func30 (enters_of Tryz.func30 (by kernel_rfl)) 2000 [.row (syms 0 4),.row (syms 4 4),.row (syms 8 4),sy [12,13],sy [14,15]] (.tup [.row [.lit .nilp,.lit .nilp,.lit .nilp,.lit .nilp],.c (.lit (.int .i64 370))])))
   (fun h2 => .ie (fun h => Or.elim h h0 (fun h => Or.elim h h1 h2)) (ev_sp (L := [cq x0,cq y0,cq x1,cq y1,cq x2,cq y2,cq a,cq b,cq ((x0 * y1) - (y0 * x1)),cq (((x0 * y1) - (y0 * x1)) * b),cq ((x2 * y0) - (y2 * x0)),cq (((x2 * y0) - (y2 * x0)) * a),cq (e1 x0 y0 x1 y1 x2 b),cq (e2 x0 y0 x1 x2 y2 a),cq (e3 x0 y0 x1 y1 x2 y2 a b),cq (e4 x0 y0 x1 y1 y2 b),cq (e5 x0 y0 y1 x2 y2 a),cq (e6 x0 y0 x1 y1 x2 y2 a b)].flatten) tys_ok mixed
     [gs (t1 false (fI h0)) [.row (syms 0 4),.row (syms 4 4)] (.r (.c (.lit (.bool false)))),
      gs (t2 false (fI h1)) [.row (syms 4 4),.row (syms 8 4)] (.r (.c (.lit (.bool false)))),
      gs (t3 false (fI h2)) [.row (syms 8 4),.row (syms 0 4)] (.r (.c (.lit (.bool false)))),
      gs (ndet x0 y0 x1 y1 (b_x0.mono (by omega)) (b_y0.mono (by omega)) (b_x1.mono (by omega)) (b_y1.mono (by omega))) [.row (syms 0 4),.row (syms 4 4)] (.r (sy [16,17])),
      gs (pMul ((x0 * y1) - (y0 * x1)) b (ndet_b0_1 x0 y0 x1 y1 b_x0 b_y0 b_x1 b_y1) b_b (by decide)) [sy [16,17],sy [14,15]] (.r (sy [18,19])),
      gs (ndet x2 y2 x0 y0 (b_x2.mono (by omega)) (b_y2.mono (by omega)) (b_x0.mono (by omega)) (b_y0.mono (by omega))) [.row (syms 8 4),.row (syms 0 4)] (.r (sy [20,21])),
      gs (pMul ((x2 * y0) - (y2 * x0)) a (ndet_b0_1 x2 y2 x0 y0 b_x2 b_y2 b_x0 b_y0) b_a (by decide)) [sy [20,21],sy [12,13]] (.r (sy [22,23])),
      gs (pMul (((x0 * y1) - (y0 * x1)) * b) x2 (ZL_mul (ndet_b0_1 x0 y0 x1 y1 b_x0 b_y0 b_x1 b_y1) b_b) b_x2 (by decide)) [sy [18,19],sy [8,9]] (.r (sy [24,25])),
      gs (pMul (((x2 * y0) - (y2 * x0)) * a) x1 (ZL_mul (ndet_b0_1 x2 y2 x0 y0 b_x2 b_y2 b_x0 b_y0) b_a) b_x1 (by decide)) [sy [22,23],sy [4,5]] (.r (sy [26,27])),
      gs (pAdd (e1 x0 y0 x1 y1 x2 b) (e2 x0 y0 x1 x2 y2 a) (e1_b0 x0 y0 x1 y1 x2 b b_x0 b_y0 b_x1 b_y1 b_x2 b_b) (e2_b0 x0 y0 x1 x2 y2 a b_x0 b_y0 b_x1 b_x2 b_y2 b_a) (by decide)) [sy [24,25],sy [26,27]] (.r (sy [28,29])),
      gs (pMul (((x0 * y1) - (y0 * x1)) * b) y2 (ZL_mul (ndet_b0_1 x0 y0 x1 y1 b_x0 b_y0 b_x1 b_y1) b_b) b_y2 (by decide)) [sy [18,19],sy [10,11]] (.r (sy [30,31])),
      gs (pMul (((x2 * y0) - (y2 * x0)) * a) y1 (ZL_mul (ndet_b0_1 x2 y2 x0 y0 b_x2 b_y2 b_x0 b_y0) b_a) b_y1 (by decide)) [sy [22,23],sy [6,7]] (.r (sy [32,33])),
      gs (pAdd (e4 x0 y0 x1 y1 y2 b) (e5 x0 y0 y1 x2 y2 a) (e4_b0 x0 y0 x1 y1 y2 b b_x0 b_y0 b_x1 b_y1 b_y2 b_b) (e5_b0 x0 y0 y1 x2 y2 a b_x0 b_y0 b_y1 b_x2 b_y2 b_a) (by decide)) [sy [30,31],sy [32,33]] (.r (sy [34,35]))]
     [] [] Tryz.func30 (enters_of Tryz.func30 (by kernel_rfl)) 2000 [.row (syms 0 4),.row (syms 4 4),.row (syms 8 4),sy [12,13],sy [14,15]] (.tup [.row [.sym 28,.sym 29,.sym 34,.sym 35],.c (.lit (.int .i64 0))])))))
theorem nlast_b3_1 (x0 y0 x1 y1 x2 y2 a b : QC) {k : Nat} (b_x0 : ZL x0 k) (b_y0 : ZL y0 k) (b_x1 : ZL x1 k) (b_y1 : ZL y1 k) (b_x2 : ZL x2 k) (b_y2 : ZL y2 k) (b_a : ZL a k) (b_b : ZL b k) : ZL (e3 x0 y0 x1 y1 x2 y2 a b) (76 * k + 31) := (e3_b0 x0 y0 x1 y1 x2 y2 a b b_x0 b_y0 b_x1 b_y1 b_x2 b_y2 b_a b_b).mono (by omega)
theorem nlast_b3_2 (x0 y0 x1 y1 x2 y2 a b : QC) {k : Nat} (b_x0 : ZL x0 k) (b_y0 : ZL y0 k) (b_x1 : ZL x1 k) (b_y1 : ZL y1 k) (b_x2 : ZL x2 k) (b_y2 : ZL y2 k) (b_a : ZL a k) (b_b : ZL b k) : ZL (e6 x0 y0 x1 y1 x2 y2 a b) (76 * k + 31) := (e6_b0 x0 y0 x1 y1 x2 y2 a b b_x0 b_y0 b_x1 b_y1 b_x2 b_y2 b_a b_b).mono (by omega)
def e7 (p : Pt) (q : Pt) (s : Pt) (a : QC) (b : QC) : QC := e3 (ptX p) (ptY p) (ptX q) (ptY q) (ptX s) (ptY s) a b
theorem e7_b0 (p : Pt) (q : Pt) (s : Pt) (a : QC) (b : QC) (b_p : ShortP p) (b_q : ShortP q) (b_s : ShortP s) (b_a : ShortZ a) (b_b : ShortZ b) : ZL (e7 p q s a b) 77855 := (nlast_b3_1 (ptX p) (ptY p) (ptX q) (ptY q) (ptX s) (ptY s) a b (ZL_ptX b_p) (ZL_ptY p) (ZL_ptX b_q) (ZL_ptY q) (ZL_ptX b_s) (ZL_ptY s) (ZL_short b_a) (ZL_short b_b)).mono (by omega)
def e8 (p : Pt) (q : Pt) (s : Pt) (a : QC) (b : QC) : QC := e6 (ptX p) (ptY p) (ptX q) (ptY q) (ptX s) (ptY s) a b
theorem e8_b0 (p : Pt) (q : Pt) (s : Pt) (a : QC) (b : QC) (b_p : ShortP p) (b_q : ShortP q) (b_s : ShortP s) (b_a : ShortZ a) (b_b : ShortZ b) : ZL (e8 p q s a b) 77855 := (nlast_b3_2 (ptX p) (ptY p) (ptX q) (ptY q) (ptX s) (ptY s) a b (ZL_ptX b_p) (ZL_ptY p) (ZL_ptX b_q) (ZL_ptY q) (ZL_ptX b_s) (ZL_ptY s) (ZL_short b_a) (ZL_short b_b)).mono (by omega)
set_option maxHeartbeats 4000000 in
theorem ncorner (p q s : Pt) (a b : QC) (b_p : ShortP p) (b_q : ShortP q) (b_s : ShortP s) (b_a : ShortZ a) (b_b : ShortZ b)  : SpecC Tryz.prog true 21 [.row ((rawPt p).cells),.row ((rawPt q).cells),.row ((rawPt s).cells),.row ((rawQ a).cells),.row ((rawQ b).cells)] (if kBad (ptX p) (ptY p) (ptX q) (ptY q) (ptX s) (ptY s) then .tup [.row (zPG),.c (gl (.int .i64 370))] else .tup [.row ((outR (e7 p q s a b) (e8 p q s a b)).cells),.c (gx (.int .i64 (outPC (e7 p q s a b) (e8 p q s a b))))]) :=
  have t1 := nlast (ptX p) (ptY p) (ptX q) (ptY q) (ptX s) (ptY s) a b ((ZL_ptX b_p).mono (by omega)) ((ZL_ptY p).mono (by omega)) ((ZL_ptX b_q).mono (by omega)) ((ZL_ptY q).mono (by omega)) ((ZL_ptX b_s).mono (by omega)) ((ZL_ptY s).mono (by omega)) ((ZL_short b_a).mono (by omega)) ((ZL_short b_b).mono (by omega))
  (Classical.em (kBad (ptX p) (ptY p) (ptX q) (ptY q) (ptX s) (ptY s))).elim (fun h0 => .it h0 (ev_sp (L := [(rawPt p).cells,(rawPt q).cells,(rawPt s).cells,(rawQ a).cells,(rawQ b).cells,cq (ptX p),cq (ptY p),cq (ptX q),cq (ptY q),cq (ptX s),cq (ptY s),cq a,cq b,[gl .nilp,gl .nilp,gl .nilp,gl .nilp,gl (.int .i64 370)]].flatten) tys_ok mixed
     [gs (pPoint p b_p) [.row (syms 0 9)] (.r (.row (syms 43 4))),
      gs (pPoint q b_q) [.row (syms 9 9)] (.r (.row (syms 47 4))),
      gs (pPoint s b_s) [.row (syms 18 9)] (.r (.row (syms 51 4))),
      gs (pOf a b_a) [.row (syms 27 8)] (.r (sy [55,56])),
      gs (pOf b b_b) [.row (syms 35 8)] (.r (sy [57,58])),
      gs ((t1.t h0)) [.row (syms 43 4),.row (syms 47 4),.row (syms 51 4),sy [55,56],sy [57,58]] (.tup [.row (syms 59 4),.c (.sym 63)])]
     [bI .neq 34 (.sym 63) (.lit (.int .i64 0)) 370 0 true rfl] [] Tryz.func21 (enters_of Tryz.func21 (by kernel_rfl)) 2000 [.row (syms 0 9),.row (syms 9 9),.row (syms 18 9),.row (syms 27 8),.row (syms 35 8)] (.tup [.row (zPA),.c (.sym 63)])))
   (fun h0 => .ie (fun h => h0 h) (ev_sp (L := [(rawPt p).cells,(rawPt q).cells,(rawPt s).cells,(rawQ a).cells,(rawQ b).cells,cq (ptX p),cq (ptY p),cq (ptX q),cq (ptY q),cq (ptX s),cq (ptY s),cq a,cq b,cq (e7 p q s a b) ++ cq (e8 p q s a b) ++ [gl (.int .i64 0)],(outR (e7 p q s a b) (e8 p q s a b)).cells,[gx (.int .i64 (outPC (e7 p q s a b) (e8 p q s a b)))]].flatten) tys_ok mixed
     [gs (pPoint p b_p) [.row (syms 0 9)] (.r (.row (syms 43 4))),
      gs (pPoint q b_q) [.row (syms 9 9)] (.r (.row (syms 47 4))),
      gs (pPoint s b_s) [.row (syms 18 9)] (.r (.row (syms 51 4))),
      gs (pOf a b_a) [.row (syms 27 8)] (.r (sy [55,56])),
      gs (pOf b b_b) [.row (syms 35 8)] (.r (sy [57,58])),
      gs ((t1.f h0)) [.row (syms 43 4),.row (syms 47 4),.row (syms 51 4),sy [55,56],sy [57,58]] (.tup [.row (syms 59 4),.c (.sym 63)]),
      gs (pPPoint (e7 p q s a b) (e8 p q s a b) (e7_b0 p q s a b b_p b_q b_s b_a b_b) (e8_b0 p q s a b b_p b_q b_s b_a b_b) (by decide)) [.row (syms 59 4)] (.tup [.row (syms 64 9),.c (.sym 73)])]
     [bI .neq 34 (.sym 63) (.lit (.int .i64 0)) 0 0 false rfl] [] Tryz.func21 (enters_of Tryz.func21 (by kernel_rfl)) 2000 [.row (syms 0 9),.row (syms 9 9),.row (syms 18 9),.row (syms 27 8),.row (syms 35 8)] (.tup [.row (syms 64 9),.c (.sym 73)])))
set_option maxHeartbeats 4000000 in
theorem nCorner (p q s : Pt) (a : QC) (b_p : ShortP p) (b_q : ShortP q) (b_s : ShortP s) (b_a : ShortZ a)  : SpecC Tryz.prog true 9 [.row ((rawPt p).cells),.row ((rawPt q).cells),.row ((rawPt s).cells),.row ((rawQ a).cells)] (if a = (⟨0,0⟩ : QC) ∨ a = (⟨1,0⟩ : QC) then .tup [.row (zPG),.c (gl (.int .i64 2))] else if kBad (ptX p) (ptY p) (ptX q) (ptY q) (ptX s) (ptY s) then .tup [.row (zPG),.c (gl (.int .i64 370))] else .tup [.row ((outR (e7 p q s a (⟨1,0⟩ : QC)) (e8 p q s a (⟨1,0⟩ : QC))).cells),.c (gx (.int .i64 (outPC (e7 p q s a (⟨1,0⟩ : QC)) (e8 p q s a (⟨1,0⟩ : QC)))))]) :=
  have t1 := pSMay (rawPt p) (sz_shortP b_p) true (tI (rawPt_ok b_p))
  have t2 := pSMay (rawPt q) (sz_shortP b_q) true (tI (rawPt_ok b_q))
  have t3 := pSMay (rawPt s) (sz_shortP b_s) true (tI (rawPt_ok b_s))
  have t4 := pGMay (rawQ a) (sz_short b_a) true (tI (rawQ_ok b_a))
  have t5 := pGInt 1 0 (by decide) (by decide) (by decide) (by decide)
  have t6 := ncorner p q s a (⟨1,0⟩ : QC) b_p b_q b_s b_a (short_c (by decide +kernel))
  (Classical.em (a = (⟨0,0⟩ : QC))).elim (fun h0 => .it (Or.inl h0) (ev_sp (L := [(rawPt p).cells,(rawPt q).cells,(rawPt s).cells,(rawQ a).cells].flatten) tys_ok mixed
     [gs (t1) [.row (syms 0 9)] (.r (.c (.lit (.bool true)))),
      gs (t2) [.row (syms 9 9)] (.r (.c (.lit (.bool true)))),
      gs (t3) [.row (syms 18 9)] (.r (.c (.lit (.bool true)))),
      gs (t4) [.row (syms 27 8)] (.r (.c (.lit (.bool true)))),
      gs (pGZero (rawQ a) true ((tI h0).trans rawQ_inj.symm)) [.row (syms 27 8)] (.r (.c (.lit (.bool true))))]
     [] [] Tryz.func9 (enters_of Tryz.func9 (by kernel_rfl)) 2000 [.row (syms 0 9),.row (syms 9 9),.row (syms 18 9),.row (syms 27 8)] (.tup [.row (zPA),.c (.lit (.int .i64 2))])))
   (fun h0 => (Classical.em (a = (⟨1,0⟩ : QC))).elim (fun h1 => .it (Or.inr h1) (ev_sp (L := [(rawPt p).cells,(rawPt q).cells,(rawPt s).cells,(rawQ a).cells,(rawQ (⟨1,0⟩ : QC)).cells].flatten) tys_ok mixed
     [gs (t1) [.row (syms 0 9)] (.r (.c (.lit (.bool true)))),
      gs (t2) [.row (syms 9 9)] (.r (.c (.lit (.bool true)))),
      gs (t3) [.row (syms 18 9)] (.r (.c (.lit (.bool true)))),
      gs (t4) [.row (syms 27 8)] (.r (.c (.lit (.bool true)))),
      gs (pGZero (rawQ a) false ((fI h0).trans rawQ_inj.symm)) [.row (syms 27 8)] (.r (.c (.lit (.bool false)))),
      gs (t5) [.c (.lit (.int .i64 1)),.c (.lit (.int .i64 0))] (.r (.row (syms 35 8)))]
     [bG (.row (syms 27 8)) (.row (syms 35 8)) (rawQ a) (rawQ (⟨1,0⟩ : QC)) true ((tI h1).trans rawQ_inj.symm)] [] Tryz.func9 (enters_of Tryz.func9 (by kernel_rfl)) 2000 [.row (syms 0 9),.row (syms 9 9),.row (syms 18 9),.row (syms 27 8)] (.tup [.row (zPA),.c (.lit (.int .i64 2))])))
   (fun h1 => .ie (fun h => Or.elim h h0 h1) ((Classical.em (kBad (ptX p) (ptY p) (ptX q) (ptY q) (ptX s) (ptY s))).elim (fun h2 => .it h2 (ev_sp (L := [(rawPt p).cells,(rawPt q).cells,(rawPt s).cells,(rawQ a).cells,(rawQ (⟨1,0⟩ : QC)).cells,zPG ++ [gl (.int .i64 370)]].flatten) tys_ok mixed
     [gs (t1) [.row (syms 0 9)] (.r (.c (.lit (.bool true)))),
      gs (t2) [.row (syms 9 9)] (.r (.c (.lit (.bool true)))),
      gs (t3) [.row (syms 18 9)] (.r (.c (.lit (.bool true)))),
      gs (t4) [.row (syms 27 8)] (.r (.c (.lit (.bool true)))),
      gs (pGZero (rawQ a) false ((fI h0).trans rawQ_inj.symm)) [.row (syms 27 8)] (.r (.c (.lit (.bool false)))),
      gs (t5) [.c (.lit (.int .i64 1)),.c (.lit (.int .i64 0))] (.r (.row (syms 35 8))),
      gs ((t6.t h2)) [.row (syms 0 9),.row (syms 9 9),.row (syms 18 9),.row (syms 27 8),.row (syms 35 8)] (.tup [.row (syms 43 9),.c (.sym 52)])]
     [bG (.row (syms 27 8)) (.row (syms 35 8)) (rawQ a) (rawQ (⟨1,0⟩ : QC)) false ((fI h1).trans rawQ_inj.symm)] [] Tryz.func9 (enters_of Tryz.func9 (by kernel_rfl)) 2000 [.row (syms 0 9),.row (syms 9 9),.row (syms 18 9),.row (syms 27 8)] (.tup [.row (syms 43 9),.c (.sym 52)])))
   (fun h2 => .ie (fun h => h2 h) (ev_sp (L := [(rawPt p).cells,(rawPt q).cells,(rawPt s).cells,(rawQ a).cells,(rawQ (⟨1,0⟩ : QC)).cells,(outR (e7 p q s a (⟨1,0⟩ : QC)) (e8 p q s a (⟨1,0⟩ : QC))).cells ++ [gx (.int .i64 (outPC (e7 p q s a (⟨1,0⟩ : QC)) (e8 p q s a (⟨1,0⟩ : QC))))]].flatten) tys_ok mixed
     [gs (t1) [.row (syms 0 9)] (.r (.c (.lit (.bool true)))),
      gs (t2) [.row (syms 9 9)] (.r (.c (.lit (.bool true)))),
      gs (t3) [.row (syms 18 9)] (.r (.c (.lit (.bool true)))),
      gs (t4) [.row (syms 27 8)] (.r (.c (.lit (.bool true)))),
      gs (pGZero (rawQ a) false ((fI h0).trans rawQ_inj.symm)) [.row (syms 27 8)] (.r (.c (.lit (.bool false)))),
      gs (t5) [.c (.lit (.int .i64 1)),.c (.lit (.int .i64 0))] (.r (.row (syms 35 8))),
      gs ((t6.f h2)) [.row (syms 0 9),.row (syms 9 9),.row (syms 18 9),.row (syms 27 8),.row (syms 35 8)] (.tup [.row (syms 43 9),.c (.sym 52)])]
     [bG (.row (syms 27 8)) (.row (syms 35 8)) (rawQ a) (rawQ (⟨1,0⟩ : QC)) false ((fI h1).trans rawQ_inj.symm)] [] Tryz.func9 (enters_of Tryz.func9 (by kernel_rfl)) 2000 [.row (syms 0 9),.row (syms 9 9),.row (syms 18 9),.row (syms 27 8)] (.tup [.row (syms 43 9),.c (.sym 52)]))))))
set_option maxHeartbeats 4000000 in
theorem nCorner_bad (v0 v1 v2 : RawP) (v3 : RawG) (b_v0 : RawP.Sz v0) (b_v1 : RawP.Sz v1) (b_v2 : RawP.Sz v2) (b_v3 : RawG.Sz v3) (hbad : ¬ (POk v0.val ∧ POk v1.val ∧ POk v2.val ∧ GOk v3.val ∧ ¬ v3 = rawQ ⟨0,0⟩ ∧ ¬ v3 = rawQ ⟨1,0⟩)) : SpecC Tryz.prog true 9 [.row (v0.cells),.row (v1.cells),.row (v2.cells),.row (v3.cells)] (.tup [.row (zPG),.c (gl (.int .i64 2))]) :=
  have t1 := pGInt 1 0 (by decide) (by decide) (by decide) (by decide)
  (Classical.em (POk v0.val)).elim (fun h0 => (Classical.em (POk v1.val)).elim (fun h1 => (Classical.em (POk v2.val)).elim (fun h2 => (Classical.em (GOk v3.val)).elim (fun h3 => (Classical.em (v3 = rawQ ⟨0,0⟩)).elim (fun h4 => ev_sp (L := [v0.cells,v1.cells,v2.cells,v3.cells].flatten) tys_ok mixed
     [gs (pSMay v0 b_v0 true (tI h0)) [.row (syms 0 9)] (.r (.c (.lit (.bool true)))),
      gs (pSMay v1 b_v1 true (tI h1)) [.row (syms 9 9)] (.r (.c (.lit (.bool true)))),
      gs (pSMay v2 b_v2 true (tI h2)) [.row (syms 18 9)] (.r (.c (.lit (.bool true)))),
      gs (pGMay v3 b_v3 true (tI h3)) [.row (syms 27 8)] (.r (.c (.lit (.bool true)))),
      gs (pGZero v3 true (tI h4)) [.row (syms 27 8)] (.r (.c (.lit (.bool true))))]
     [] [] Tryz.func9 (enters_of Tryz.func9 (by kernel_rfl)) 2000 [.row (syms 0 9),.row (syms 9 9),.row (syms 18 9),.row (syms 27 8)] (.tup [.row (zPA),.c (.lit (.int .i64 2))]))
   (fun h4 => (Classical.em (v3 = (rawQ (⟨1,0⟩ : QC)))).elim (fun h5 => ev_sp (L := [v0.cells,v1.cells,v2.cells,v3.cells,(rawQ (⟨1,0⟩ : QC)).cells].flatten) tys_ok mixed
     [gs (pSMay v0 b_v0 true (tI h0)) [.row (syms 0 9)] (.r (.c (.lit (.bool true)))),
      gs (pSMay v1 b_v1 true (tI h1)) [.row (syms 9 9)] (.r (.c (.lit (.bool true)))),
      gs (pSMay v2 b_v2 true (tI h2)) [.row (syms 18 9)] (.r (.c (.lit (.bool true)))),
      gs (pGMay v3 b_v3 true (tI h3)) [.row (syms 27 8)] (.r (.c (.lit (.bool true)))),
      gs (pGZero v3 false (fI h4)) [.row (syms 27 8)] (.r (.c (.lit (.bool false)))),
      gs (t1) [.c (.lit (.int .i64 1)),.c (.lit (.int .i64 0))] (.r (.row (syms 35 8)))]
     [bG (.row (syms 27 8)) (.row (syms 35 8)) v3 (rawQ (⟨1,0⟩ : QC)) true (tI h5)] [] Tryz.func9 (enters_of Tryz.func9 (by kernel_rfl)) 2000 [.row (syms 0 9),.row (syms 9 9),.row (syms 18 9),.row (syms 27 8)] (.tup [.row (zPA),.c (.lit (.int .i64 2))]))
   (fun h5 => (hbad ⟨h0,h1,h2,h3,h4,h5⟩).elim)))
   (fun h3 => ev_sp (L := [v0.cells,v1.cells,v2.cells,v3.cells].flatten) tys_ok mixed
     [gs (pSMay v0 b_v0 true (tI h0)) [.row (syms 0 9)] (.r (.c (.lit (.bool true)))),
      gs (pSMay v1 b_v1 true (tI h1)) [.row (syms 9 9)] (.r (.c (.lit (.bool true)))),
      gs (pSMay v2 b_v2 true (tI h2)) [.row (syms 18 9)] (.r (.c (.lit (.bool true)))),
      gs (pGMay v3 b_v3 false (fI h3)) [.row (syms 27 8)] (.r (.c (.lit (.bool false))))]
     [] [] Tryz.func9 (enters_of Tryz.func9 (by kernel_rfl)) 2000 [.row (syms 0 9),.row (syms 9 9),.row (syms 18 9),.row (syms 27 8)] (.tup [.row (zPA),.c (.lit (.int .i64 2))])))
   (fun h2 => ev_sp (L := [v0.cells,v1.cells,v2.cells,v3.cells].flatten) tys_ok mixed
     [gs (pSMay v0 b_v0 true (tI h0)) [.row (syms 0 9)] (.r (.c (.lit (.bool true)))),
      gs (pSMay v1 b_v1 true (tI h1)) [.row (syms 9 9)] (.r (.c (.lit (.bool true)))),
      gs (pSMay v2 b_v2 false (fI h2)) [.row (syms 18 9)] (.r (.c (.lit (.bool false))))]
     [] [] Tryz.func9 (enters_of Tryz.func9 (by kernel_rfl)) 2000 [.row (syms 0 9),.row (syms 9 9),.row (syms 18 9),.row (syms 27 8)] (.tup [.row (zPA),.c (.lit (.int .i64 2))])))
   (fun h1 => ev_sp (L := [v0.cells,v1.cells,v2.cells,v3.cells].flatten) tys_ok mixed
     [gs (pSMay v0 b_v0 true (tI h0)) [.row (syms 0 9)] (.r (.c (.lit (.bool true)))),
      gs (pSMay v1 b_v1 false (fI h1)) [.row (syms 9 9)] (.r (.c (.lit (.bool false))))]
     [] [] Tryz.func9 (enters_of Tryz.func9 (by kernel_rfl)) 2000 [.row (syms 0 9),.row (syms 9 9),.row (syms 18 9),.row (syms 27 8)] (.tup [.row (zPA),.c (.lit (.int .i64 2))])))
   (fun h0 => ev_sp (L := [v0.cells,v1.cells,v2.cells,v3.cells].flatten) tys_ok mixed
     [gs (pSMay v0 b_v0 false (fI h0)) [.row (syms 0 9)] (.r (.c (.lit (.bool false))))]
     [] [] Tryz.func9 (enters_of Tryz.func9 (by kernel_rfl)) 2000 [.row (syms 0 9),.row (syms 9 9),.row (syms 18 9),.row (syms 27 8)] (.tup [.row (zPA),.c (.lit (.int .i64 2))]))
set_option maxHeartbeats 4000000 in
theorem ncube (p q r s : Pt) (a b c : QC) (b_p : ShortP p) (b_q : ShortP q) (b_r : ShortP r) (b_s : ShortP s) (b_a : ShortZ a) (b_b : ShortZ b) (b_c : ShortZ c)  : SpecC Tryz.prog true 27 [.row ((rawPt p).cells ++ (rawPt q).cells ++ (rawPt r).cells ++ (rawPt s).cells ++ (rawQ a).cells ++ (rawQ b).cells ++ (rawQ c).cells)] (if a = (⟨0,0⟩ : QC) ∨ b = (⟨0,0⟩ : QC) ∨ c = (⟨0,0⟩ : QC) ∨ a = b ∨ b = c ∨ c = a then .r (.c (gl (.int .i64 2))) else .r (.c (gl (.int .i64 0)))) :=
  have t1 := pSMay (rawPt p) (sz_shortP b_p) true (tI (rawPt_ok b_p))
  have t2 := pSMay (rawPt q) (sz_shortP b_q) true (tI (rawPt_ok b_q))
  have t3 := pSMay (rawPt r) (sz_shortP b_r) true (tI (rawPt_ok b_r))
  have t4 := pSMay (rawPt s) (sz_shortP b_s) true (tI (rawPt_ok b_s))
  have t5 := pGMay (rawQ a) (sz_short b_a) true (tI (rawQ_ok b_a))
  have t6 := pGMay (rawQ b) (sz_short b_b) true (tI (rawQ_ok b_b))
  have t7 := pGMay (rawQ c) (sz_short b_c) true (tI (rawQ_ok b_c))
  (Classical.em (a = (⟨0,0⟩ : QC))).elim (fun h0 => .it (Or.inl h0) (ev_sp (L := [(rawPt p).cells,(rawPt q).cells,(rawPt r).cells,(rawPt s).cells,(rawQ a).cells,(rawQ b).cells,(rawQ c).cells].flatten) tys_ok mixed
     [gs (t1) [.row (syms 0 9)] (.r (.c (.lit (.bool true)))),
      gs (t2) [.row (syms 9 9)] (.r (.c (.lit (.bool true)))),
      gs (t3) [.row (syms 18 9)] (.r (.c (.lit (.bool true)))),
      gs (t4) [.row (syms 27 9)] (.r (.c (.lit (.bool true)))),
      gs (t5) [.row (syms 36 8)] (.r (.c (.lit (.bool true)))),
      gs (pGZero (rawQ a) true ((tI h0).trans rawQ_inj.symm)) [.row (syms 36 8)] (.r (.c (.lit (.bool true))))]
     [] [] Tryz.func27 (enters_of Tryz.func27 (by kernel_rfl)) 2000 [.row (syms 0 60)] (.r (.c (.lit (.int .i64 2))))))
   (fun h0 => (Classical.em (b = (⟨0,0⟩ : QC))).elim (fun h1 => .it (Or.inr (Or.inl h1)) (ev_sp (L := [(rawPt p).cells,(rawPt q).cells,(rawPt r).cells,(rawPt s).cells,(rawQ a).cells,(rawQ b).cells,(rawQ c).cells].flatten) tys_ok mixed
     [gs (t1) [.row (syms 0 9)] (.r (.c (.lit (.bool true)))),
      gs (t2) [.row (syms 9 9)] (.r (.c (.lit (.bool true)))),
      gs (t3) [.row (syms 18 9)] (.r (.c (.lit (.bool true)))),
      gs (t4) [.row (syms 27 9)] (.r (.c (.lit (.bool true)))),
      gs (t5) [.row (syms 36 8)] (.r (.c (.lit (.bool true)))),
      gs (pGZero (rawQ a) false ((fI h0).trans rawQ_inj.symm)) [.row (syms 36 8)] (.r (.c (.lit (.bool false)))),
      gs (t6) [.row (syms 44 8)] (.r (.c (.lit (.bool true)))),
      gs (pGZero (rawQ b) true ((tI h1).trans rawQ_inj.symm)) [.row (syms 44 8)] (.r (.c (.lit (.bool true))))]
     [] [] Tryz.func27 (enters_of Tryz.func27 (by kernel_rfl)) 2000 [.row (syms 0 60)] (.r (.c (.lit (.int .i64 2))))))
   (fun h1 => (Classical.em (c = (⟨0,0⟩ : QC))).elim (fun h2 => .it (Or.inr (Or.inr (Or.inl h2))) (ev_sp (L := [(rawPt p).cells,(rawPt q).cells,(rawPt r).cells,(rawPt s).cells,(rawQ a).cells,(rawQ b).cells,(rawQ c).cells].flatten) tys_ok mixed
     [gs (t1) [.row (syms 0 9)] (.r (.c (.lit (.bool true)))),
      gs (t2) [.row (syms 9 9)] (.r (.c (.lit (.bool true)))),
      gs (t3) [.row (syms 18 9)] (.r (.c (.lit (.bool true)))),
      gs (t4) [.row (syms 27 9)] (.r (.c (.lit (.bool true)))),
      gs (t5) [.row (syms 36 8)] (.r (.c (.lit (.bool true)))),
      gs (pGZero (rawQ a) false ((fI h0).trans rawQ_inj.symm)) [.row (syms 36 8)] (.r (.c (.lit (.bool false)))),
      gs (t6) [.row (syms 44 8)] (.r (.c (.lit (.bool true)))),
      gs (pGZero (rawQ b) false ((fI h1).trans rawQ_inj.symm)) [.row (syms 44 8)] (.r (.c (.lit (.bool false)))),
      gs (t7) [.row (syms 52 8)] (.r (.c (.lit (.bool true)))),
      gs (pGZero (rawQ c) true ((tI h2).trans rawQ_inj.symm)) [.row (syms 52 8)] (.r (.c (.lit (.bool true))))]
     [] [] Tryz.func27 (enters_of Tryz.func27 (by kernel_rfl)) 2000 [.row (syms 0 60)] (.r (.c (.lit (.int .i64 2))))))
   (fun h2 => (Classical.em (a = b)).elim (fun h3 => .it (Or.inr (Or.inr (Or.inr (Or.inl h3)))) (ev_sp (L := [(rawPt p).cells,(rawPt q).cells,(rawPt r).cells,(rawPt s).cells,(rawQ a).cells,(rawQ b).cells,(rawQ c).cells].flatten) tys_ok mixed
     [gs (t1) [.row (syms 0 9)] (.r (.c (.lit (.bool true)))),
      gs (t2) [.row (syms 9 9)] (.r (.c (.lit (.bool true)))),
      gs (t3) [.row (syms 18 9)] (.r (.c (.lit (.bool true)))),
      gs (t4) [.row (syms 27 9)] (.r (.c (.lit (.bool true)))),
      gs (t5) [.row (syms 36 8)] (.r (.c (.lit (.bool true)))),
      gs (pGZero (rawQ a) false ((fI h0).trans rawQ_inj.symm)) [.row (syms 36 8)] (.r (.c (.lit (.bool false)))),
      gs (t6) [.row (syms 44 8)] (.r (.c (.lit (.bool true)))),
      gs (pGZero (rawQ b) false ((fI h1).trans rawQ_inj.symm)) [.row (syms 44 8)] (.r (.c (.lit (.bool false)))),
      gs (t7) [.row (syms 52 8)] (.r (.c (.lit (.bool true)))),
      gs (pGZero (rawQ c) false ((fI h2).trans rawQ_inj.symm)) [.row (syms 52 8)] (.r (.c (.lit (.bool false))))]
     [bG (.row (syms 36 8)) (.row (syms 44 8)) (rawQ a) (rawQ b) true ((tI h3).trans rawQ_inj.symm)] [] Tryz.func27 (enters_of Tryz.func27 (by kernel_rfl)) 2000 [.row (syms 0 60)] (.r (.c (.lit (.int .i64 2))))))
   (fun h3 => (Classical.em (b = c)).elim (fun h4 => .it (Or.inr (Or.inr (Or.inr (Or.inr (Or.inl h4))))) (ev_sp (L := [(rawPt p).cells,(rawPt q).cells,(rawPt r).cells,(rawPt s).cells,(rawQ a).cells,(rawQ b).cells,(rawQ c).cells].flatten) tys_ok mixed
     [gs (t1) [.row (syms 0 9)] (.r (.c (.lit (.bool true)))),
      gs (t2) [.row (syms 9 9)] (.r (.c (.lit (.bool true)))),
      gs (t3) [.row (syms 18 9)] (.r (.c (.lit (.bool true)))),
      gs (t4) [.row (syms 27 9)] (.r (.c (.lit (.bool true)))),
      gs (t5) [.row (syms 36 8)] (.r (.c (.lit (.bool true)))),
      gs (pGZero (rawQ a) false ((fI h0).trans rawQ_inj.symm)) [.row (syms 36 8)] (.r (.c (.lit (.bool false)))),
      gs (t6) [.row (syms 44 8)] (.r (.c (.lit (.bool true)))),
      gs (pGZero (rawQ b) false ((fI h1).trans rawQ_inj.symm)) [.row (syms 44 8)] (.r (.c (.lit (.bool false)))),
      gs (t7) [.row (syms 52 8)] (.r (.c (.lit (.bool true)))),
      gs (pGZero (rawQ c) false ((fI h2).trans rawQ_inj.symm)) [.row (syms 52 8)] (.r (.c (.lit (.bool false))))]
     [bG (.row (syms 36 8)) (.row (syms 44 8)) (rawQ a) (rawQ b) false ((fI h3).trans rawQ_inj.symm),bG (.row (syms 44 8)) (.row (syms 52 8)) (rawQ b) (rawQ c) true ((tI h4).trans rawQ_inj.symm)] [] Tryz.func27 (enters_of Tryz.func27 (by kernel_rfl)) 2000 [.row (syms 0 60)] (.r (.c (.lit (.int .i64 2))))))
   (fun h4 => (Classical.em (c = a)).elim (fun h5 => .it (Or.inr (Or.inr (Or.inr (Or.inr (Or.inr h5))))) (ev_sp (L := [(rawPt p).cells,(rawPt q).cells,(rawPt r).cells,(rawPt s).cells,(rawQ a).cells,(rawQ b).cells,(rawQ c).cells].flatten) tys_ok mixed
     [gs (t1) [.row (syms 0 9)] (.r (.c (.lit (.bool true)))),
      gs (t2) [.row (syms 9 9)] (.r (.c (.lit (.bool true)))),
      gs (t3) [.row (syms 18 9)] (.r (.c (.lit (.bool true)))),
      gs (t4) [.row (syms 27 9)] (.r (.c (.lit (.bool true)))),
      gs (t5) [.row (syms 36 8)] (.r (.c (.lit (.bool true)))),
      gs (pGZero (rawQ a) false ((fI h0).trans rawQ_inj.symm)) [.row (syms 36 8)] (.r (.c (.lit (.bool false)))),
      gs (t6) [.row (syms 44 8)] (.r (.c (.lit (.bool true)))),
      gs (pGZero (rawQ b) false ((fI h1).trans rawQ_inj.symm)) [.row (syms 44 8)] (.r (.c (.lit (.bool false)))),
      gs (t7) [.row (syms 52 8)] (.r (.c (.lit (.bool true)))),
      gs (pGZero (rawQ c) false ((fI h2).trans rawQ_inj.symm)) [.row (syms 52 8)] (.r (.c (.lit (.bool false))))]
     [bG (.row (syms 36 8)) (.row (syms 44 8)) (rawQ a) (rawQ b) false ((fI h3).trans rawQ_inj.symm),bG (.row (syms 44 8)) (.row (syms 52 8)) (rawQ b) (rawQ c) false ((fI h4).trans rawQ_inj.symm),bG (.row (syms 52 8)) (.row (syms 36 8)) (rawQ c) (rawQ a) true ((tI h5).trans rawQ_inj.symm)] [] Tryz.func27 (enters_of Tryz.func27 (by kernel_rfl)) 2000 [.row (syms 0 60)] (.r (.c (.lit (.int .i64 2))))))
   (fun h5 => .ie (fun h => Or.elim h h0 (fun h => Or.elim h h1 (fun h => Or.elim h h2 (fun h => Or.elim h h3 (fun h => Or.elim h h4 h5))))) (ev_sp (L := [(rawPt p).cells,(rawPt q).cells,(rawPt r).cells,(rawPt s).cells,(rawQ a).cells,(rawQ b).cells,(rawQ c).cells].flatten) tys_ok mixed
     [gs (t1) [.row (syms 0 9)] (.r (.c (.lit (.bool true)))),
      gs (t2) [.row (syms 9 9)] (.r (.c (.lit (.bool true)))),
      gs (t3) [.row (syms 18 9)] (.r (.c (.lit (.bool true)))),
      gs (t4) [.row (syms 27 9)] (.r (.c (.lit (.bool true)))),
      gs (t5) [.row (syms 36 8)] (.r (.c (.lit (.bool true)))),
      gs (pGZero (rawQ a) false ((fI h0).trans rawQ_inj.symm)) [.row (syms 36 8)] (.r (.c (.lit (.bool false)))),
      gs (t6) [.row (syms 44 8)] (.r (.c (.lit (.bool true)))),
      gs (pGZero (rawQ b) false ((fI h1).trans rawQ_inj.symm)) [.row (syms 44 8)] (.r (.c (.lit (.bool false)))),
      gs (t7) [.row (syms 52 8)] (.r (.c (.lit (.bool true)))),
      gs (pGZero (rawQ c) false ((fI h2).trans rawQ_inj.symm)) [.row (syms 52 8)] (.r (.c (.lit (.bool false))))]
     [bG (.row (syms 36 8)) (.row (syms 44 8)) (rawQ a) (rawQ b) false ((fI h3).trans rawQ_inj.symm),bG (.row (syms 44 8)) (.row (syms 52 8)) (rawQ b) (rawQ c) false ((fI h4).trans rawQ_inj.symm),bG (.row (syms 52 8)) (.row (syms 36 8)) (rawQ c) (rawQ a) false ((fI h5).trans rawQ_inj.symm)] [] Tryz.func27 (enters_of Tryz.func27 (by kernel_rfl)) 2000 [.row (syms 0 60)] (.r (.c (.lit (.int .i64 0)))))))))))
end Go.Proofs.YteljkhfbgliokaaGreat
