/- Laws for the walk. -/
import Derived.Test.YtplakbflfckldaaGreatYay
set_option linter.unusedVariables false
set_option maxHeartbeats 4000000
namespace Go.Proofs.YtplakbflfckldaaGreat
open Go.RowKit Tr
open Classical
theorem ndet(x0 y0 x1 y1:QC)(b_x0:ZL x0 1000000)(b_y0:ZL y0 1000000)(b_x1:ZL x1 1000000)(b_y1:ZL y1 1000000) :SpecC Tryz.prog true 162 [.row (cq x0++cq y0),.row (cq x1++cq y1)] (.r (.row (cq ((x0*y1) - (y0*x1))))) :=
  ev_sp (L := [cq x0,cq y0,cq x1,cq y1,cq (x0 * y1),cq (y0 * x1),cq ((x0 * y1) - (y0 * x1))].flatten) tys_ok mixed
     [gs (pMul x0 y1 b_x0 b_y1 (by decide)) [sy [0,1],sy [6,7]] (.r (sy [8,9])),gs (pMul y0 x1 b_y0 b_x1 (by decide)) [sy [2,3],sy [4,5]] (.r (sy [10,11])),gs (pSub (x0*y1) (y0*x1) (ZL_mul b_x0 b_y1) (ZL_mul b_y0 b_x1) (by decide)) [sy [8,9],sy [10,11]] (.r (sy [12,13]))]
     [] [] Tryz.func162 eo162 2000 [.row (syms 0 4),.row (syms 4 4)] (.r (sy [12,13]))
theorem ndet_b0_1(x0 y0 x1 y1:QC){k:Nat}(b_x0:ZL x0 k)(b_y0:ZL y0 k)(b_x1:ZL x1 k)(b_y1:ZL y1 k):ZL ((x0*y1) - (y0*x1)) (8*k+3):=(ZL_sub (ZL_mul b_x0 b_y1) (ZL_mul b_y0 b_x1)).mono (by omega)
def e1(x0:QC)(y0:QC)(x1:QC)(y1:QC)(x2:QC)(b:QC):QC:=(((x0*y1) - (y0*x1))*b)*x2
theorem e1_b0(x0:QC)(y0:QC)(x1:QC)(y1:QC)(x2:QC)(b:QC){k:Nat}(b_x0:ZL x0 k)(b_y0:ZL y0 k)(b_x1:ZL x1 k)(b_y1:ZL y1 k)(b_x2:ZL x2 k)(b_b:ZL b k):ZL (e1 x0 y0 x1 y1 x2 b) (38*k+15):=(ZL_mul (ZL_mul (ndet_b0_1 x0 y0 x1 y1 b_x0 b_y0 b_x1 b_y1) b_b) b_x2).mono (by omega)
def e2(x0:QC)(y0:QC)(x1:QC)(x2:QC)(y2:QC)(a:QC):QC:=(((x2*y0) - (y2*x0))*a)*x1
theorem e2_b0(x0:QC)(y0:QC)(x1:QC)(x2:QC)(y2:QC)(a:QC){k:Nat}(b_x0:ZL x0 k)(b_y0:ZL y0 k)(b_x1:ZL x1 k)(b_x2:ZL x2 k)(b_y2:ZL y2 k)(b_a:ZL a k):ZL (e2 x0 y0 x1 x2 y2 a) (38*k+15):=(ZL_mul (ZL_mul (ndet_b0_1 x2 y2 x0 y0 b_x2 b_y2 b_x0 b_y0) b_a) b_x1).mono (by omega)
def e3(x0:QC)(y0:QC)(x1:QC)(y1:QC)(x2:QC)(y2:QC)(a:QC)(b:QC):QC:=(e1 x0 y0 x1 y1 x2 b)+(e2 x0 y0 x1 x2 y2 a)
theorem e3_b0(x0:QC)(y0:QC)(x1:QC)(y1:QC)(x2:QC)(y2:QC)(a:QC)(b:QC){k:Nat}(b_x0:ZL x0 k)(b_y0:ZL y0 k)(b_x1:ZL x1 k)(b_y1:ZL y1 k)(b_x2:ZL x2 k)(b_y2:ZL y2 k)(b_a:ZL a k)(b_b:ZL b k):ZL (e3 x0 y0 x1 y1 x2 y2 a b) (76*k+31):=(ZL_add (e1_b0 x0 y0 x1 y1 x2 b b_x0 b_y0 b_x1 b_y1 b_x2 b_b) (e2_b0 x0 y0 x1 x2 y2 a b_x0 b_y0 b_x1 b_x2 b_y2 b_a)).mono (by omega)
def e4(x0:QC)(y0:QC)(x1:QC)(y1:QC)(y2:QC)(b:QC):QC:=(((x0*y1) - (y0*x1))*b)*y2
theorem e4_b0(x0:QC)(y0:QC)(x1:QC)(y1:QC)(y2:QC)(b:QC){k:Nat}(b_x0:ZL x0 k)(b_y0:ZL y0 k)(b_x1:ZL x1 k)(b_y1:ZL y1 k)(b_y2:ZL y2 k)(b_b:ZL b k):ZL (e4 x0 y0 x1 y1 y2 b) (38*k+15):=(ZL_mul (ZL_mul (ndet_b0_1 x0 y0 x1 y1 b_x0 b_y0 b_x1 b_y1) b_b) b_y2).mono (by omega)
def e5(x0:QC)(y0:QC)(y1:QC)(x2:QC)(y2:QC)(a:QC):QC:=(((x2*y0) - (y2*x0))*a)*y1
theorem e5_b0(x0:QC)(y0:QC)(y1:QC)(x2:QC)(y2:QC)(a:QC){k:Nat}(b_x0:ZL x0 k)(b_y0:ZL y0 k)(b_y1:ZL y1 k)(b_x2:ZL x2 k)(b_y2:ZL y2 k)(b_a:ZL a k):ZL (e5 x0 y0 y1 x2 y2 a) (38*k+15):=(ZL_mul (ZL_mul (ndet_b0_1 x2 y2 x0 y0 b_x2 b_y2 b_x0 b_y0) b_a) b_y1).mono (by omega)
def e6(x0:QC)(y0:QC)(x1:QC)(y1:QC)(x2:QC)(y2:QC)(a:QC)(b:QC):QC:=(e4 x0 y0 x1 y1 y2 b)+(e5 x0 y0 y1 x2 y2 a)
theorem e6_b0(x0:QC)(y0:QC)(x1:QC)(y1:QC)(x2:QC)(y2:QC)(a:QC)(b:QC){k:Nat}(b_x0:ZL x0 k)(b_y0:ZL y0 k)(b_x1:ZL x1 k)(b_y1:ZL y1 k)(b_x2:ZL x2 k)(b_y2:ZL y2 k)(b_a:ZL a k)(b_b:ZL b k):ZL (e6 x0 y0 x1 y1 x2 y2 a b) (76*k+31):=(ZL_add (e4_b0 x0 y0 x1 y1 y2 b b_x0 b_y0 b_x1 b_y1 b_y2 b_b) (e5_b0 x0 y0 y1 x2 y2 a b_x0 b_y0 b_y1 b_x2 b_y2 b_a)).mono (by omega)
theorem nlast(x0 y0 x1 y1 x2 y2 a b:QC)(b_x0:ZL x0 1000000)(b_y0:ZL y0 1000000)(b_x1:ZL x1 1000000)(b_y1:ZL y1 1000000)(b_x2:ZL x2 1000000)(b_y2:ZL y2 1000000)(b_a:ZL a 1000000)(b_b:ZL b 1000000) :SpecC Tryz.prog true 103 [.row (cq x0++cq y0),.row (cq x1++cq y1),.row (cq x2++cq y2),.row (cq a),.row (cq b)] (if kBad x0 y0 x1 y1 x2 y2 then .tup [.row ([gl .nilp,gl .nilp,gl .nilp,gl .nilp]),.c (gl (.int .i64 370))] else .tup [.row (cq (e3 x0 y0 x1 y1 x2 y2 a b)++cq (e6 x0 y0 x1 y1 x2 y2 a b)),.c (gl (.int .i64 0))]) :=
  have t1:=pPSame x0 y0 x1 y1 b_x0 b_y0 b_x1 b_y1 (by decide)
  have t2:=pPSame x1 y1 x2 y2 b_x1 b_y1 b_x2 b_y2 (by decide)
  have t3:=pPSame x2 y2 x0 y0 b_x2 b_y2 b_x0 b_y0 (by decide)
  (Classical.em (x0 * y1 = x1 * y0)).elim (fun h0 => .it (Or.inl h0) (ev_sp (L := [cq x0,cq y0,cq x1,cq y1,cq x2,cq y2,cq a,cq b].flatten) tys_ok mixed
     [gs (t1 true (tI h0)) [.row (syms 0 4),.row (syms 4 4)] (.r (.c (.lit (.bool true))))]
     [] [] Tryz.func103 eo103 2000 [.row (syms 0 4),.row (syms 4 4),.row (syms 8 4),sy [12,13],sy [14,15]] (.tup [.row [.lit .nilp,.lit .nilp,.lit .nilp,.lit .nilp],.c (.lit (.int .i64 370))])))
   (fun h0=>(Classical.em (x1*y2=x2*y1)).elim (fun h1=>.it (Or.inr (Or.inl h1)) (ev_sp (L:=[cq x0,cq y0,cq x1,cq y1,cq x2,cq y2,cq a,cq b].flatten) tys_ok mixed
     [gs (t1 false (fI h0)) [.row (syms 0 4),.row (syms 4 4)] (.r (.c (.lit (.bool false)))),gs (t2 true (tI h1)) [.row (syms 4 4),.row (syms 8 4)] (.r (.c (.lit (.bool true))))]
     [] [] Tryz.func103 eo103 2000 [.row (syms 0 4),.row (syms 4 4),.row (syms 8 4),sy [12,13],sy [14,15]] (.tup [.row [.lit .nilp,.lit .nilp,.lit .nilp,.lit .nilp],.c (.lit (.int .i64 370))])))
   (fun h1=>(Classical.em (x2*y0=x0*y2)).elim (fun h2=>.it (Or.inr (Or.inr h2)) (ev_sp (L:=[cq x0,cq y0,cq x1,cq y1,cq x2,cq y2,cq a,cq b].flatten) tys_ok mixed
     [gs (t1 false (fI h0)) [.row (syms 0 4),.row (syms 4 4)] (.r (.c (.lit (.bool false)))),gs (t2 false (fI h1)) [.row (syms 4 4),.row (syms 8 4)] (.r (.c (.lit (.bool false)))),gs (t3 true (tI h2)) [.row (syms 8 4),.row (syms 0 4)] (.r (.c (.lit (.bool true))))]
     [] [] Tryz.func103 eo103 2000 [.row (syms 0 4),.row (syms 4 4),.row (syms 8 4),sy [12,13],sy [14,15]] (.tup [.row [.lit .nilp,.lit .nilp,.lit .nilp,.lit .nilp],.c (.lit (.int .i64 370))])))
   (fun h2=>.ie (fun h=>Or.elim h h0 (fun h=>Or.elim h h1 h2)) (ev_sp (L:=[cq x0,cq y0,cq x1,cq y1,cq x2,cq y2,cq a,cq b,cq ((x0*y1) - (y0*x1)),cq (((x0*y1) - (y0*x1))*b),cq ((x2*y0) - (y2*x0)),cq (((x2*y0) - (y2*x0))*a),cq (e1 x0 y0 x1 y1 x2 b),cq (e2 x0 y0 x1 x2 y2 a),cq (e3 x0 y0 x1 y1 x2 y2 a b),cq (e4 x0 y0 x1 y1 y2 b),cq (e5 x0 y0 y1 x2 y2 a),cq (e6 x0 y0 x1 y1 x2 y2 a b)].flatten) tys_ok mixed
     [gs (t1 false (fI h0)) [.row (syms 0 4),.row (syms 4 4)] (.r (.c (.lit (.bool false)))),gs (t2 false (fI h1)) [.row (syms 4 4),.row (syms 8 4)] (.r (.c (.lit (.bool false)))),gs (t3 false (fI h2)) [.row (syms 8 4),.row (syms 0 4)] (.r (.c (.lit (.bool false)))),gs (ndet x0 y0 x1 y1 (b_x0.mono (by omega)) (b_y0.mono (by omega)) (b_x1.mono (by omega)) (b_y1.mono (by omega))) [.row (syms 0 4),.row (syms 4 4)] (.r (sy [16,17])),gs (pMul ((x0*y1) - (y0*x1)) b (ndet_b0_1 x0 y0 x1 y1 b_x0 b_y0 b_x1 b_y1) b_b (by decide)) [sy [16,17],sy [14,15]] (.r (sy [18,19])),gs (ndet x2 y2 x0 y0 (b_x2.mono (by omega)) (b_y2.mono (by omega)) (b_x0.mono (by omega)) (b_y0.mono (by omega))) [.row (syms 8 4),.row (syms 0 4)] (.r (sy [20,21])),gs (pMul ((x2*y0) - (y2*x0)) a (ndet_b0_1 x2 y2 x0 y0 b_x2 b_y2 b_x0 b_y0) b_a (by decide)) [sy [20,21],sy [12,13]] (.r (sy [22,23])),gs (pMul (((x0*y1) - (y0*x1))*b) x2 (ZL_mul (ndet_b0_1 x0 y0 x1 y1 b_x0 b_y0 b_x1 b_y1) b_b) b_x2 (by decide)) [sy [18,19],sy [8,9]] (.r (sy [24,25])),gs (pMul (((x2*y0) - (y2*x0))*a) x1 (ZL_mul (ndet_b0_1 x2 y2 x0 y0 b_x2 b_y2 b_x0 b_y0) b_a) b_x1 (by decide)) [sy [22,23],sy [4,5]] (.r (sy [26,27])),gs (pAdd (e1 x0 y0 x1 y1 x2 b) (e2 x0 y0 x1 x2 y2 a) (e1_b0 x0 y0 x1 y1 x2 b b_x0 b_y0 b_x1 b_y1 b_x2 b_b) (e2_b0 x0 y0 x1 x2 y2 a b_x0 b_y0 b_x1 b_x2 b_y2 b_a) (by decide)) [sy [24,25],sy [26,27]] (.r (sy [28,29])),gs (pMul (((x0*y1) - (y0*x1))*b) y2 (ZL_mul (ndet_b0_1 x0 y0 x1 y1 b_x0 b_y0 b_x1 b_y1) b_b) b_y2 (by decide)) [sy [18,19],sy [10,11]] (.r (sy [30,31])),gs (pMul (((x2*y0) - (y2*x0))*a) y1 (ZL_mul (ndet_b0_1 x2 y2 x0 y0 b_x2 b_y2 b_x0 b_y0) b_a) b_y1 (by decide)) [sy [22,23],sy [6,7]] (.r (sy [32,33])),gs (pAdd (e4 x0 y0 x1 y1 y2 b) (e5 x0 y0 y1 x2 y2 a) (e4_b0 x0 y0 x1 y1 y2 b b_x0 b_y0 b_x1 b_y1 b_y2 b_b) (e5_b0 x0 y0 y1 x2 y2 a b_x0 b_y0 b_y1 b_x2 b_y2 b_a) (by decide)) [sy [30,31],sy [32,33]] (.r (sy [34,35]))]
     [] [] Tryz.func103 eo103 2000 [.row (syms 0 4),.row (syms 4 4),.row (syms 8 4),sy [12,13],sy [14,15]] (.tup [.row [.sym 28,.sym 29,.sym 34,.sym 35],.c (.lit (.int .i64 0))])))))
theorem nlast_b3_1(x0 y0 x1 y1 x2 y2 a b:QC){k:Nat}(b_x0:ZL x0 k)(b_y0:ZL y0 k)(b_x1:ZL x1 k)(b_y1:ZL y1 k)(b_x2:ZL x2 k)(b_y2:ZL y2 k)(b_a:ZL a k)(b_b:ZL b k):ZL (e3 x0 y0 x1 y1 x2 y2 a b) (76*k+31):=(e3_b0 x0 y0 x1 y1 x2 y2 a b b_x0 b_y0 b_x1 b_y1 b_x2 b_y2 b_a b_b).mono (by omega)
theorem nlast_b3_2(x0 y0 x1 y1 x2 y2 a b:QC){k:Nat}(b_x0:ZL x0 k)(b_y0:ZL y0 k)(b_x1:ZL x1 k)(b_y1:ZL y1 k)(b_x2:ZL x2 k)(b_y2:ZL y2 k)(b_a:ZL a k)(b_b:ZL b k):ZL (e6 x0 y0 x1 y1 x2 y2 a b) (76*k+31):=(e6_b0 x0 y0 x1 y1 x2 y2 a b b_x0 b_y0 b_x1 b_y1 b_x2 b_y2 b_a b_b).mono (by omega)
def e7(p:Pt)(q:Pt)(s:Pt)(a:QC)(b:QC):QC:=e3 (ptX p) (ptY p) (ptX q) (ptY q) (ptX s) (ptY s) a b
theorem e7_b0(p:Pt)(q:Pt)(s:Pt)(a:QC)(b:QC)(b_p:ShortP p)(b_q:ShortP q)(b_s:ShortP s)(b_a:ShortZ a)(b_b:ShortZ b):ZL (e7 p q s a b) 77855:=(nlast_b3_1 (ptX p) (ptY p) (ptX q) (ptY q) (ptX s) (ptY s) a b (ZL_ptX b_p) (ZL_ptY p) (ZL_ptX b_q) (ZL_ptY q) (ZL_ptX b_s) (ZL_ptY s) (ZL_short b_a) (ZL_short b_b)).mono (by omega)
def e8(p:Pt)(q:Pt)(s:Pt)(a:QC)(b:QC):QC:=e6 (ptX p) (ptY p) (ptX q) (ptY q) (ptX s) (ptY s) a b
theorem e8_b0(p:Pt)(q:Pt)(s:Pt)(a:QC)(b:QC)(b_p:ShortP p)(b_q:ShortP q)(b_s:ShortP s)(b_a:ShortZ a)(b_b:ShortZ b):ZL (e8 p q s a b) 77855:=(nlast_b3_2 (ptX p) (ptY p) (ptX q) (ptY q) (ptX s) (ptY s) a b (ZL_ptX b_p) (ZL_ptY p) (ZL_ptX b_q) (ZL_ptY q) (ZL_ptX b_s) (ZL_ptY s) (ZL_short b_a) (ZL_short b_b)).mono (by omega)
theorem ncorner(p q s:Pt)(a b:QC)(b_p:ShortP p)(b_q:ShortP q)(b_s:ShortP s)(b_a:ShortZ a)(b_b:ShortZ b) :SpecC Tryz.prog true 51 [.row ((rawPt p).cells),.row ((rawPt q).cells),.row ((rawPt s).cells),.row ((rawQ a).cells),.row ((rawQ b).cells)] (if kBad (ptX p) (ptY p) (ptX q) (ptY q) (ptX s) (ptY s) then .tup [.row (zPG),.c (gl (.int .i64 370))] else .tup [.row ((outR (e7 p q s a b) (e8 p q s a b)).cells),.c (gx (.int .i64 (outPC (e7 p q s a b) (e8 p q s a b))))]) :=
  have t1:=nlast (ptX p) (ptY p) (ptX q) (ptY q) (ptX s) (ptY s) a b ((ZL_ptX b_p).mono (by omega)) ((ZL_ptY p).mono (by omega)) ((ZL_ptX b_q).mono (by omega)) ((ZL_ptY q).mono (by omega)) ((ZL_ptX b_s).mono (by omega)) ((ZL_ptY s).mono (by omega)) ((ZL_short b_a).mono (by omega)) ((ZL_short b_b).mono (by omega))
  (Classical.em (kBad (ptX p) (ptY p) (ptX q) (ptY q) (ptX s) (ptY s))).elim (fun h0 => .it h0 (ev_sp (L := [(rawPt p).cells,(rawPt q).cells,(rawPt s).cells,(rawQ a).cells,(rawQ b).cells,cq (ptX p),cq (ptY p),cq (ptX q),cq (ptY q),cq (ptX s),cq (ptY s),cq a,cq b,[gl .nilp,gl .nilp,gl .nilp,gl .nilp,gl (.int .i64 370)]].flatten) tys_ok mixed
     [gs (pPoint p b_p) [.row (syms 0 9)] (.r (.row (syms 43 4))),gs (pPoint q b_q) [.row (syms 9 9)] (.r (.row (syms 47 4))),gs (pPoint s b_s) [.row (syms 18 9)] (.r (.row (syms 51 4))),gs (pOf a b_a) [.row (syms 27 8)] (.r (sy [55,56])),gs (pOf b b_b) [.row (syms 35 8)] (.r (sy [57,58])),gs ((t1.t h0)) [.row (syms 43 4),.row (syms 47 4),.row (syms 51 4),sy [55,56],sy [57,58]] (.tup [.row (syms 59 4),.c (.sym 63)])]
     [bI .neq 39 (.sym 63) (.lit (.int .i64 0)) 370 0 true rfl] [] Tryz.func51 eo51 2000 [.row (syms 0 9),.row (syms 9 9),.row (syms 18 9),.row (syms 27 8),.row (syms 35 8)] (.tup [.row (zPA),.c (.sym 63)])))
   (fun h0=>.ie (fun h=>h0 h) (ev_sp (L:=[(rawPt p).cells,(rawPt q).cells,(rawPt s).cells,(rawQ a).cells,(rawQ b).cells,cq (ptX p),cq (ptY p),cq (ptX q),cq (ptY q),cq (ptX s),cq (ptY s),cq a,cq b,cq (e7 p q s a b)++cq (e8 p q s a b)++[gl (.int .i64 0)],(outR (e7 p q s a b) (e8 p q s a b)).cells,[gx (.int .i64 (outPC (e7 p q s a b) (e8 p q s a b)))]].flatten) tys_ok mixed
     [gs (pPoint p b_p) [.row (syms 0 9)] (.r (.row (syms 43 4))),gs (pPoint q b_q) [.row (syms 9 9)] (.r (.row (syms 47 4))),gs (pPoint s b_s) [.row (syms 18 9)] (.r (.row (syms 51 4))),gs (pOf a b_a) [.row (syms 27 8)] (.r (sy [55,56])),gs (pOf b b_b) [.row (syms 35 8)] (.r (sy [57,58])),gs ((t1.f h0)) [.row (syms 43 4),.row (syms 47 4),.row (syms 51 4),sy [55,56],sy [57,58]] (.tup [.row (syms 59 4),.c (.sym 63)]),gs (pPPoint (e7 p q s a b) (e8 p q s a b) (e7_b0 p q s a b b_p b_q b_s b_a b_b) (e8_b0 p q s a b b_p b_q b_s b_a b_b) (by decide)) [.row (syms 59 4)] (.tup [.row (syms 64 9),.c (.sym 73)])]
     [bI .neq 39 (.sym 63) (.lit (.int .i64 0)) 0 0 false rfl] [] Tryz.func51 eo51 2000 [.row (syms 0 9),.row (syms 9 9),.row (syms 18 9),.row (syms 27 8),.row (syms 35 8)] (.tup [.row (syms 64 9),.c (.sym 73)])))
theorem nCorner(p q s:Pt)(a:QC)(b_p:ShortP p)(b_q:ShortP q)(b_s:ShortP s)(b_a:ShortZ a) :SpecC Tryz.prog true 22 [.row ((rawPt p).cells),.row ((rawPt q).cells),.row ((rawPt s).cells),.row ((rawQ a).cells)] (if a=(⟨0,0⟩:QC)∨a=(⟨1,0⟩:QC) then .tup [.row (zPG),.c (gl (.int .i64 2))] else if kBad (ptX p) (ptY p) (ptX q) (ptY q) (ptX s) (ptY s) then .tup [.row (zPG),.c (gl (.int .i64 370))] else .tup [.row ((outR (e7 p q s a (⟨1,0⟩:QC)) (e8 p q s a (⟨1,0⟩:QC))).cells),.c (gx (.int .i64 (outPC (e7 p q s a (⟨1,0⟩:QC)) (e8 p q s a (⟨1,0⟩:QC)))))]) :=
  have t1:=pSMay (rawPt p) (sz_shortP b_p) true (tI (rawPt_ok b_p))
  have t2:=pSMay (rawPt q) (sz_shortP b_q) true (tI (rawPt_ok b_q))
  have t3:=pSMay (rawPt s) (sz_shortP b_s) true (tI (rawPt_ok b_s))
  have t4:=pGMay (rawQ a) (sz_short b_a) true (tI (rawQ_ok b_a))
  have t5:=pGInt 1 0 (by decide) (by decide) (by decide) (by decide)
  have t6:=ncorner p q s a (⟨1,0⟩:QC) b_p b_q b_s b_a (short_c (by decide +kernel))
  (Classical.em (a = (⟨0,0⟩ : QC))).elim (fun h0 => .it (Or.inl h0) (ev_sp (L := [(rawPt p).cells,(rawPt q).cells,(rawPt s).cells,(rawQ a).cells].flatten) tys_ok mixed
     [gs (t1) [.row (syms 0 9)] (.r (.c (.lit (.bool true)))),gs (t2) [.row (syms 9 9)] (.r (.c (.lit (.bool true)))),gs (t3) [.row (syms 18 9)] (.r (.c (.lit (.bool true)))),gs (t4) [.row (syms 27 8)] (.r (.c (.lit (.bool true)))),gs (pGZero (rawQ a) true ((tI h0).trans rawQ_inj.symm)) [.row (syms 27 8)] (.r (.c (.lit (.bool true))))]
     [] [] Tryz.func22 eo22 2000 [.row (syms 0 9),.row (syms 9 9),.row (syms 18 9),.row (syms 27 8)] (.tup [.row (zPA),.c (.lit (.int .i64 2))])))
   (fun h0=>(Classical.em (a=(⟨1,0⟩:QC))).elim (fun h1=>.it (Or.inr h1) (ev_sp (L:=[(rawPt p).cells,(rawPt q).cells,(rawPt s).cells,(rawQ a).cells,(rawQ (⟨1,0⟩:QC)).cells].flatten) tys_ok mixed
     [gs (t1) [.row (syms 0 9)] (.r (.c (.lit (.bool true)))),gs (t2) [.row (syms 9 9)] (.r (.c (.lit (.bool true)))),gs (t3) [.row (syms 18 9)] (.r (.c (.lit (.bool true)))),gs (t4) [.row (syms 27 8)] (.r (.c (.lit (.bool true)))),gs (pGZero (rawQ a) false ((fI h0).trans rawQ_inj.symm)) [.row (syms 27 8)] (.r (.c (.lit (.bool false)))),gs (t5) [.c (.lit (.int .i64 1)),.c (.lit (.int .i64 0))] (.r (.row (syms 35 8)))]
     [bG (.row (syms 27 8)) (.row (syms 35 8)) (rawQ a) (rawQ (⟨1,0⟩:QC)) true ((tI h1).trans rawQ_inj.symm)] [] Tryz.func22 eo22 2000 [.row (syms 0 9),.row (syms 9 9),.row (syms 18 9),.row (syms 27 8)] (.tup [.row (zPA),.c (.lit (.int .i64 2))])))
   (fun h1=>.ie (fun h=>Or.elim h h0 h1) ((Classical.em (kBad (ptX p) (ptY p) (ptX q) (ptY q) (ptX s) (ptY s))).elim (fun h2=>.it h2 (ev_sp (L:=[(rawPt p).cells,(rawPt q).cells,(rawPt s).cells,(rawQ a).cells,(rawQ (⟨1,0⟩:QC)).cells,zPG++[gl (.int .i64 370)]].flatten) tys_ok mixed
     [gs (t1) [.row (syms 0 9)] (.r (.c (.lit (.bool true)))),gs (t2) [.row (syms 9 9)] (.r (.c (.lit (.bool true)))),gs (t3) [.row (syms 18 9)] (.r (.c (.lit (.bool true)))),gs (t4) [.row (syms 27 8)] (.r (.c (.lit (.bool true)))),gs (pGZero (rawQ a) false ((fI h0).trans rawQ_inj.symm)) [.row (syms 27 8)] (.r (.c (.lit (.bool false)))),gs (t5) [.c (.lit (.int .i64 1)),.c (.lit (.int .i64 0))] (.r (.row (syms 35 8))),gs ((t6.t h2)) [.row (syms 0 9),.row (syms 9 9),.row (syms 18 9),.row (syms 27 8),.row (syms 35 8)] (.tup [.row (syms 43 9),.c (.sym 52)])]
     [bG (.row (syms 27 8)) (.row (syms 35 8)) (rawQ a) (rawQ (⟨1,0⟩:QC)) false ((fI h1).trans rawQ_inj.symm)] [] Tryz.func22 eo22 2000 [.row (syms 0 9),.row (syms 9 9),.row (syms 18 9),.row (syms 27 8)] (.tup [.row (syms 43 9),.c (.sym 52)])))
   (fun h2=>.ie (fun h=>h2 h) (ev_sp (L:=[(rawPt p).cells,(rawPt q).cells,(rawPt s).cells,(rawQ a).cells,(rawQ (⟨1,0⟩:QC)).cells,(outR (e7 p q s a (⟨1,0⟩:QC)) (e8 p q s a (⟨1,0⟩:QC))).cells++[gx (.int .i64 (outPC (e7 p q s a (⟨1,0⟩:QC)) (e8 p q s a (⟨1,0⟩:QC))))]].flatten) tys_ok mixed
     [gs (t1) [.row (syms 0 9)] (.r (.c (.lit (.bool true)))),gs (t2) [.row (syms 9 9)] (.r (.c (.lit (.bool true)))),gs (t3) [.row (syms 18 9)] (.r (.c (.lit (.bool true)))),gs (t4) [.row (syms 27 8)] (.r (.c (.lit (.bool true)))),gs (pGZero (rawQ a) false ((fI h0).trans rawQ_inj.symm)) [.row (syms 27 8)] (.r (.c (.lit (.bool false)))),gs (t5) [.c (.lit (.int .i64 1)),.c (.lit (.int .i64 0))] (.r (.row (syms 35 8))),gs ((t6.f h2)) [.row (syms 0 9),.row (syms 9 9),.row (syms 18 9),.row (syms 27 8),.row (syms 35 8)] (.tup [.row (syms 43 9),.c (.sym 52)])]
     [bG (.row (syms 27 8)) (.row (syms 35 8)) (rawQ a) (rawQ (⟨1,0⟩:QC)) false ((fI h1).trans rawQ_inj.symm)] [] Tryz.func22 eo22 2000 [.row (syms 0 9),.row (syms 9 9),.row (syms 18 9),.row (syms 27 8)] (.tup [.row (syms 43 9),.c (.sym 52)]))))))
end Go.Proofs.YtplakbflfckldaaGreat
namespace Go.Proofs.YtplakbflfckldaaGreat
open Go.RowKit Tr
open Classical
theorem lat_0_0  :SpecC Tryz.prog true 23 [.c (gl (.int .i64 0)),.c (gl (.int .i64 0))] (.r (.row ([gl (.bool false)]++(rawQ (⟨0,0⟩:QC)).cells))) :=
  ev_sp (L := [(rawQ (⟨0,0⟩ : QC)).cells].flatten) tys_ok mixed
     [gs (pGInt 0 0 (by decide) (by decide) (by decide) (by decide)) [.c (.lit (.int .i64 0)),.c (.lit (.int .i64 0))] (.r (.row (syms 0 8)))]
     [] [] Tryz.func23 eo23 2000 [.c (.lit (.int .i64 0)),.c (.lit (.int .i64 0))] (.r (.row (flA [[.lit (.bool false)],syms 0 8])))
theorem lat_0_0_b0_1 :ShortP (some (⟨0,0⟩:QC)):=short_c (by decide +kernel)
theorem lat_1_0  :SpecC Tryz.prog true 23 [.c (gl (.int .i64 1)),.c (gl (.int .i64 0))] (.r (.row ([gl (.bool false)]++(rawQ (⟨1,0⟩:QC)).cells))) :=
  ev_sp (L := [(rawQ (⟨1,0⟩ : QC)).cells].flatten) tys_ok mixed
     [gs (pGInt 1 0 (by decide) (by decide) (by decide) (by decide)) [.c (.lit (.int .i64 1)),.c (.lit (.int .i64 0))] (.r (.row (syms 0 8)))]
     [] [] Tryz.func23 eo23 2000 [.c (.lit (.int .i64 1)),.c (.lit (.int .i64 0))] (.r (.row (flA [[.lit (.bool false)],syms 0 8])))
theorem lat_1_0_b0_1 :ShortP (some (⟨1,0⟩:QC)):=short_c (by decide +kernel)
theorem lat_0_1  :SpecC Tryz.prog true 23 [.c (gl (.int .i64 0)),.c (gl (.int .i64 1))] (.r (.row ([gl (.bool false)]++(rawQ (⟨0,1⟩:QC)).cells))) :=
  ev_sp (L := [(rawQ (⟨0,1⟩ : QC)).cells].flatten) tys_ok mixed
     [gs (pGInt 0 1 (by decide) (by decide) (by decide) (by decide)) [.c (.lit (.int .i64 0)),.c (.lit (.int .i64 1))] (.r (.row (syms 0 8)))]
     [] [] Tryz.func23 eo23 2000 [.c (.lit (.int .i64 0)),.c (.lit (.int .i64 1))] (.r (.row (flA [[.lit (.bool false)],syms 0 8])))
theorem lat_0_1_b0_1 :ShortP (some (⟨0,1⟩:QC)):=short_c (by decide +kernel)
theorem lat_1_1  :SpecC Tryz.prog true 23 [.c (gl (.int .i64 1)),.c (gl (.int .i64 1))] (.r (.row ([gl (.bool false)]++(rawQ (⟨1,1⟩:QC)).cells))) :=
  ev_sp (L := [(rawQ (⟨1,1⟩ : QC)).cells].flatten) tys_ok mixed
     [gs (pGInt 1 1 (by decide) (by decide) (by decide) (by decide)) [.c (.lit (.int .i64 1)),.c (.lit (.int .i64 1))] (.r (.row (syms 0 8)))]
     [] [] Tryz.func23 eo23 2000 [.c (.lit (.int .i64 1)),.c (.lit (.int .i64 1))] (.r (.row (flA [[.lit (.bool false)],syms 0 8])))
end Go.Proofs.YtplakbflfckldaaGreat
namespace Go.Proofs.YtplakbflfckldaaGreat
open Go.RowKit Tr
open Classical
theorem kn0:¬((⟨-1,0⟩:QC)=(⟨0,0⟩:QC)∨(⟨-1,0⟩:QC)=(⟨1,0⟩:QC)):=by decide +kernel
theorem kn1:¬(kBad (ptX (some (⟨0,0⟩:QC))) (ptY (some (⟨0,0⟩:QC))) (ptX (some (⟨1,0⟩:QC))) (ptY (some (⟨1,0⟩:QC))) (ptX (some (⟨0,1⟩:QC))) (ptY (some (⟨0,1⟩:QC)))):=by unfold kBad; decide +kernel
theorem kn2:kBad (ptX (some (⟨0,0⟩:QC))) (ptY (some (⟨0,0⟩:QC))) (ptX (some (⟨0,0⟩:QC))) (ptY (some (⟨0,0⟩:QC))) (ptX (some (⟨0,1⟩:QC))) (ptY (some (⟨0,1⟩:QC))):=by unfold kBad; decide +kernel
theorem kn3:(outR (e7 (some (⟨0,0⟩:QC)) (some (⟨1,0⟩:QC)) (some (⟨0,1⟩:QC)) (⟨-1,0⟩:QC) (⟨1,0⟩:QC)) (e8 (some (⟨0,0⟩:QC)) (some (⟨1,0⟩:QC)) (some (⟨0,1⟩:QC)) (⟨-1,0⟩:QC) (⟨1,0⟩:QC)))=(rawPt (some (⟨1,1⟩:QC))):=outR_is (by decide +kernel) (by decide +kernel) (short_c (by decide +kernel))
theorem kn4:(outPC (e7 (some (⟨0,0⟩:QC)) (some (⟨1,0⟩:QC)) (some (⟨0,1⟩:QC)) (⟨-1,0⟩:QC) (⟨1,0⟩:QC)) (e8 (some (⟨0,0⟩:QC)) (some (⟨1,0⟩:QC)) (some (⟨0,1⟩:QC)) (⟨-1,0⟩:QC) (⟨1,0⟩:QC)))=0:=outPC_is (z:=(⟨1,1⟩:QC)) (by decide +kernel) (by decide +kernel) (short_c (by decide +kernel))
theorem lknown  :SpecC Tryz.prog true 7 [] (.r (.c (gl (.bool true)))) :=
  ev_sp (L := [(rawPt (some (⟨0,0⟩ : QC))).cells,(rawPt (some (⟨1,0⟩ : QC))).cells,(rawPt (some (⟨0,1⟩ : QC))).cells,(rawQ (⟨-1,0⟩ : QC)).cells,(outR (e7 (some (⟨0,0⟩ : QC)) (some (⟨1,0⟩ : QC)) (some (⟨0,1⟩ : QC)) (⟨-1,0⟩ : QC) (⟨1,0⟩ : QC)) (e8 (some (⟨0,0⟩ : QC)) (some (⟨1,0⟩ : QC)) (some (⟨0,1⟩ : QC)) (⟨-1,0⟩ : QC) (⟨1,0⟩ : QC))).cells,[gx (.int .i64 (outPC (e7 (some (⟨0,0⟩ : QC)) (some (⟨1,0⟩ : QC)) (some (⟨0,1⟩ : QC)) (⟨-1,0⟩ : QC) (⟨1,0⟩ : QC)) (e8 (some (⟨0,0⟩ : QC)) (some (⟨1,0⟩ : QC)) (some (⟨0,1⟩ : QC)) (⟨-1,0⟩ : QC) (⟨1,0⟩ : QC))))],(rawPt (some (⟨1,1⟩ : QC))).cells].flatten) tys_ok mixed
     [gs (lat_0_0) [.c (.lit (.int .i64 0)),.c (.lit (.int .i64 0))] (.r (.row (syms 0 9))),gs (lat_1_0) [.c (.lit (.int .i64 1)),.c (.lit (.int .i64 0))] (.r (.row (syms 9 9))),gs (lat_0_1) [.c (.lit (.int .i64 0)),.c (.lit (.int .i64 1))] (.r (.row (syms 18 9))),gs (pGInt (-1) 0 (by decide) (by decide) (by decide) (by decide)) [.c (.lit (.int .i64 (-1))),.c (.lit (.int .i64 0))] (.r (.row (syms 27 8))),gs (((nCorner (some (⟨0,0⟩:QC)) (some (⟨1,0⟩:QC)) (some (⟨0,1⟩:QC)) (⟨-1,0⟩:QC) lat_0_0_b0_1 lat_1_0_b0_1 lat_0_1_b0_1 (short_c (by decide +kernel))).f kn0).f kn1) [.row (syms 0 9),.row (syms 9 9),.row (syms 18 9),.row (syms 27 8)] (.tup [.row (syms 35 9),.c (.sym 44)]),gs (((nCorner (some (⟨0,0⟩:QC)) (some (⟨0,0⟩:QC)) (some (⟨0,1⟩:QC)) (⟨-1,0⟩:QC) lat_0_0_b0_1 lat_0_0_b0_1 lat_0_1_b0_1 (short_c (by decide +kernel))).f kn0).t kn2) [.row (syms 0 9),.row (syms 0 9),.row (syms 18 9),.row (syms 27 8)] (.tup [.row (zPA),.c (.lit (.int .i64 370))]),gs (lat_1_1) [.c (.lit (.int .i64 1)),.c (.lit (.int .i64 1))] (.r (.row (syms 45 9)))]
     [bP (.row (syms 35 9)) (.row (syms 45 9)) (outR (e7 (some (⟨0,0⟩:QC)) (some (⟨1,0⟩:QC)) (some (⟨0,1⟩:QC)) (⟨-1,0⟩:QC) (⟨1,0⟩:QC)) (e8 (some (⟨0,0⟩:QC)) (some (⟨1,0⟩:QC)) (some (⟨0,1⟩:QC)) (⟨-1,0⟩:QC) (⟨1,0⟩:QC))) (rawPt (some (⟨1,1⟩:QC))) true (tI kn3),bI .eql 39 (.sym 44) (.lit (.int .i64 0)) (outPC (e7 (some (⟨0,0⟩:QC)) (some (⟨1,0⟩:QC)) (some (⟨0,1⟩:QC)) (⟨-1,0⟩:QC) (⟨1,0⟩:QC)) (e8 (some (⟨0,0⟩:QC)) (some (⟨1,0⟩:QC)) (some (⟨0,1⟩:QC)) (⟨-1,0⟩:QC) (⟨1,0⟩:QC))) 0 true (by simp[cmpB,kn4])] [] Tryz.func7 eo7 2000 [] (.r (.c (.lit (.bool true))))
end Go.Proofs.YtplakbflfckldaaGreat
namespace Go.Proofs.YtplakbflfckldaaGreat
open Go.RowKit Tr
theorem RatO.shape{q:Rat}{v:Value}{w:World}{A:Nat→Prop}(h:RatO q v w A):∃ p,v=.pointer p:=by
 rcases h with⟨rfl,_⟩|h
 ·exact⟨none,rfl⟩
 ·obtain⟨m,rfl⟩:=h.shape
  exact⟨_,rfl⟩
theorem put_numO{a b:Rat}{v1 v2:Value}{w w1:World}{A:Nat→Prop}{n:Nat}(hb:Below w.heap.size w w1)(h1:RatO a v1 w1 (Mo A n))(h2:RatO b v2 w1 (Mo A n))(hn:w.heap.size≤n) :
  ∃ u,Ending.returned (.agg #[v1,v2])=.returned u∧Below w.heap.size w ((w1.setCell ⟨n,0,none⟩ v1).setCell ⟨n,1,none⟩ v2)∧NumO a b u ((w1.setCell ⟨n,0,none⟩ v1).setCell ⟨n,1,none⟩ v2) A:=by
 refine⟨_,rfl,(hb.setCell (p:=⟨n,0,none⟩) hn _).setCell (p:=⟨n,1,none⟩) hn _,v1,v2,rfl,?_,?_⟩
 ·exact more_less _ (RatO.keeps a) (keep_set _ (RatO.keeps a) (keep_set _ (RatO.keeps a) h1))
 ·exact more_less _ (RatO.keeps b) (keep_set _ (RatO.keeps b) (keep_set _ (RatO.keeps b) h2))
set_option maxRecDepth 100000 in
theorem NDiv_any(a b c d n:Rat)(hn:n=c*c+d*d)(hn0:n≠0)(v v':Value)(A:Nat→Prop)(w:World)(hv:NumO a b v w A)(hv':NumO c d v' w A)(hA:Rcv A w)(k l:Nat)(hla:RL a k)(hlb:RL b k)(hlc:RL c l)(hld:RL d l)(hkl:(k+l+(k+l)+1)+(l+l+(l+l)+1)<137438953472) :
  Calls Tryz.prog 92 #[v,v'] w fun e w'=>∃ u,e=.returned u∧Below w.heap.size w w'∧NumO ((a*c - b*(-d))*n⁻¹) ((a*(-d)+b*c)*n⁻¹) u w' A:=by
 have hv0:=new_more (NumO.keeps a b) (n:=w.heap.size+2) br (by omega) hv
 have hv0':=new_more (NumO.keeps c d) (n:=w.heap.size+2) br (by omega) hv'
 obtain⟨u1,u2,rfl,h1,h2⟩:=hv
 obtain⟨u3,u4,rfl,h3,h4⟩:=hv'
 clear h1 h2 h3 h4
 obtain⟨W,HV,hs1,hs2,e0,e1,e2,e3⟩:=box_two w u1 u2 u3 u4 A hA
 have hx:=Fact.Keeps.below (FactU.keeps (NumO.keeps a b)) HV.out.2.1 hv0
 have hy:=Fact.Keeps.below (FactU.keeps (NumO.keeps c d)) HV.out.2.1 hv0'
 have HN:=Lib.hid (And.intro hn hn0)
 clear hA hv0 hv0' hn hn0
 have lm1:RL (a*c - b*(-d)) (k+l+(k+l)+1):=RL_sub (RL_mul hla hlc) (RL_mul hlb (RL_neg hld))
 have lm2:RL (a*(-d)+b*c) (k+l+(k+l)+1):=RL_add (RL_mul hla (RL_neg hld)) (RL_mul hlb hlc)
 have ln:RL n (l+l+(l+l)+1):=by rw[HN.out.1]; exact RL_add (RL_mul hlc hlc) (RL_mul hld hld)
 have li:RL n⁻¹ (l+l+(l+l)+1):=RL_inv HN.out.2 ln
 go_enter Tryz.func92,Tryz.ntmps92
 go_wp2_with fail
 rw[←HV.out.1]
 refine wp_region_inv [(.lit,[]),(.lit,[]),(.val,[]),(.val,[2]),(.new zR,[]),(.lit,[]),(.val,[]),(.on 4 zR,[6]),(.val,[3,7])]
  (pickF [(2,FactU (Mo A (w.heap.size+2)) (NumO c (-d))),(3,FactU (Mo A (w.heap.size+2)) (NumO (a*c - b*(-d)) (a*(-d)+b*c))),(6,FactU (Mo A (w.heap.size+2)) (RatP n)),(7,FactU (Mo A (w.heap.size+2)) (RatP n⁻¹)),(8,FactU (Mo A (w.heap.size+2)) (NumO ((a*c - b*(-d))*n⁻¹) ((a*(-d)+b*c)*n⁻¹)))]) (by kernel_rfl) ?_ ?_ (by simp[noW_zRat]) (by simp) (by kernel_rfl)
 ·exact keeps_pick (by simp only[List.mem_cons,List.not_mem_nil,or_false]; rintro p (rfl|rfl|rfl|rfl|rfl)<;>first|exact FactU.keeps (RatP.keeps _)|exact FactU.keeps (NumO.keeps _ _))
 ·refine⟨_,fun f w1 h1=>by(have d0:=ct h1 hs1 e0; have d1:=ct h1 hs1 e1; have d2:=ct h1 hs2 e2; have d3:=ct h1 hs2 e3; go_simp; rfl),?_⟩
  refine⟨_,fun f w1 h1=>by(have d0:=ct h1 hs1 e0; have d1:=ct h1 hs1 e1; have d2:=ct h1 hs2 e2; have d3:=ct h1 hs2 e3; go_simp; rfl),?_⟩
  simp only[Act.put,nrA,nrB,nrC,Nat.reduceAdd]
  refine⟨fun f w1 A1 k1 hA hN hd K hK=>by
   go_simp
   refine(NConj_any c d _ (Un (Mo A (w.heap.size+2)) A1) w1 (later (FactU.keeps (NumO.keeps _ _)) hy k1 hN) (rcv_un (HV.out.2.2.1.below (br.drew.trans k1)) hA) (hld.mono (by omega))).mono ?_
   rintro e w' ⟨v,rfl,hb,hr⟩
   exact hK _ _ hb hr,?_⟩
  simp only[Act.put,nrA,nrB,nrC,Nat.reduceAdd]
  refine⟨fun f w1 A1 k1 hA hN hd K hK=>by
   have i2:NumO c (-d) (f 2) w1 (Un (Mo A (w.heap.size+2)) A1):=hd 2 (by simp)
   go_simp
   refine(NMul_any a b c (-d) _ _ (Un (Mo A (w.heap.size+2)) A1) w1 (later (FactU.keeps (NumO.keeps _ _)) hx k1 hN) i2 (rcv_un (HV.out.2.2.1.below (br.drew.trans k1)) hA) k l hla hlb hlc (RL_neg hld) (by omega)).mono ?_
   rintro e w' ⟨v,rfl,hb,hr⟩
   exact hK _ _ hb hr,?_⟩
  refine⟨fun f w1=>by go_simp,?_⟩
  refine⟨_,fun f w1 h1=>by(have d0:=ct h1 hs1 e0; have d1:=ct h1 hs1 e1; have d2:=ct h1 hs2 e2; have d3:=ct h1 hs2 e3; go_simp; rfl),?_⟩
  simp only[Act.put,nrA,nrB,nrC,Nat.reduceAdd]
  refine⟨fun f w1 A1 k1 hA hN hd K hK=>by
   go_simp
   refine(NNorm_any c d _ (Un (Mo A (w.heap.size+2)) A1) w1 (later (FactU.keeps (NumO.keeps _ _)) hy k1 hN) (rcv_un (HV.out.2.2.1.below (br.drew.trans k1)) hA) l hlc hld (by omega)).mono ?_
   rintro e w' ⟨v,rfl,hb,hr⟩
   rw[←HN.out.1] at hr
   exact hK _ _ hb hr,?_⟩
  simp only[Act.put,nrA,nrB,nrC,Nat.reduceAdd]
  refine⟨fun f w1 A1 m1 k1 hA hN hAm hm0 e hz hd K hK=>by
   simp only[e] at hK ⊢
   have i6:RatP n (f 6) w1 (Un (Mo A (w.heap.size+2)) A1):=hd 6 (by simp)
   go_simp
   refine(RInv_any m1 _ n HN.out.2 _ _ w1 hz (by decide) noW_zRat i6 _ ln (by omega)).mono ?_
   rintro e w' ⟨rfl,hp⟩
   exact hK _ w' hp.1 (hp.ratU (HV.out.2.2.1.below (br.drew.trans k1)) hA hm0 (fun b hb=>HV.out.2.2.1.lt hb)),?_⟩
  simp only[Act.put,nrA,nrB,nrC,Nat.reduceAdd]
  refine⟨fun f w1 A1 k1 hA hN hd K hK=>by
   have i3:NumO (a*c - b*(-d)) (a*(-d)+b*c) (f 3) w1 (Un (Mo A (w.heap.size+2)) A1):=hd 3 (by simp)
   have i7:RatP n⁻¹ (f 7) w1 (Un (Mo A (w.heap.size+2)) A1):=hd 7 (by simp)
   go_simp
   refine(NScale_any _ _ _ _ _ (Un (Mo A (w.heap.size+2)) A1) w1 i3 (.inr i7) (rcv_un (HV.out.2.2.1.below (br.drew.trans k1)) hA) _ _ lm1 lm2 li hkl).mono ?_
   rintro e w' ⟨v,rfl,hb,hr⟩
   exact hK _ _ hb hr,?_⟩
  intro f w1 k1 hF
  have i8:NumO ((a*c - b*(-d))*n⁻¹) ((a*(-d)+b*c)*n⁻¹) (f 8) w1 (Mo A (w.heap.size+2)):=FactU.done (NumO.keeps _ _) hF.2
  clear hF
  simp only[Act.put,nrA,nrB,nrC]
  generalize f 2=x2
  generalize f 3=x3
  generalize f 6=x6
  generalize f 7=x7
  generalize f 8=x8 at *
  obtain⟨y1,y2,rfl,j1,j2⟩:=i8
  have hb1:Below W.heap.size W w1:=br.drew.trans k1
  obtain⟨c0,c1,f0,f1⟩:=HV.out.2.2.2 w1 hb1
  have HE:=Lib.hid (And.intro j1 (And.intro j2 (HV.out.2.1.trans (hb1.mono HV.out.2.1.size))))
  obtain⟨m1,rfl⟩:=j1.shape
  obtain⟨m2,rfl⟩:=j2.shape
  clear e0 e1 e2 e3 j1 j2 hb1 k1 hx hy lm1 lm2 ln li
  go_wp2_with fail
  refine bodyPost_ret (v:=.agg #[.pointer m1,.pointer m2]) (by simp[results,Tryz.results92,go_sem,c0,c1]) rfl ?_
  exact put_numO HE.out.2.2 HE.out.1 HE.out.2.1 (by omega)
set_option maxRecDepth 100000 in
theorem NTold_any(a b:Rat)(v:Value)(A:Nat→Prop)(w:World)(hv:NumO a b v w A)(hla:RL a 137438953472)(hlb:RL b 137438953472) :
  Calls Tryz.prog 70 #[v] w fun e w'=>e=.returned (.tuple #[outG a b,.int .i64 (outGC a b)])∧Below w.heap.size w w':=by
 obtain⟨u1,u2,rfl,h1,h2⟩:=hv
 obtain⟨b1,t1,b2,t2,ea⟩:=outF_four a
 obtain⟨b3,t3,b4,t4,eb⟩:=outF_four b
 obtain⟨k1,hk1⟩:∃ k1,k1=outC a:=⟨_,rfl⟩
 obtain⟨k2,hk2⟩:∃ k2,k2=outC b:=⟨_,rfl⟩
 obtain⟨W0,hW0⟩:∃ W0,W0=w.alloc (.cells #[u1,u2] 98):=⟨_,rfl⟩
 have hz0:W0.heap.size=w.heap.size+1:=by rw[hW0]; simp
 obtain⟨W,hW⟩:∃ W,W=W0.alloc (.cells #[.bool false,.string ⟨#[]⟩,.bool false,.string ⟨#[]⟩,.bool false,.string ⟨#[]⟩,.bool false,.string ⟨#[]⟩] 36):=⟨_,rfl⟩
 have hb0:Below w.heap.size w W0:=by rw[hW0]; exact br.alloc (Nat.le_refl _) _
 have hb1:Below W0.heap.size W0 W:=by rw[hW]; exact br.alloc (Nat.le_refl _) _
 have hb:=hb0.trans (hb1.mono hb0.size)
 obtain⟨e0,e1,_⟩:=new_two w u1 u2 98 (w1:=W) (by rw[←hW0]; exact hb1)
 have hlt:w.heap.size<W.heap.size:=by have:=hb1.size; omega
 have H1:=Lib.hid (EFrac_any a u1 A W (h1.below hb) hla)
 have H2:=Lib.hid (fun w' (h:Below W.heap.size W w')=>EFrac_any b u2 A w' ((h2.below hb).below h) hlb)
 rw[ea,←hk1] at H1
 rw[eb,←hk2] at H2
 have HK:=Lib.hid (And.intro (show k1=0↔ShortF a by rw[hk1]; exact outC_zero) (And.intro (show k2=0↔ShortF b by rw[hk2]; exact outC_zero) (And.intro ea eb)))
 have HV:=Lib.hid (And.intro (hW.trans (by rw[hW0])) (And.intro hb (fun w1 (h:Below W.heap.size W w1)=>And.intro (new_eight W0 _ _ _ _ _ _ _ _ _ (w1:=w1) (by rw[←hW]; exact h)) (frozen_eight W0 _ _ _ _ _ _ _ _ _ (w1:=w1) (by rw[←hW]; exact h)))))
 rw[hz0] at HV
 clear hk1 hk2 ea eb hW hW0 hz0 hb hb0 hb1 h1 h2
 go_enter Tryz.func70,Tryz.ntmps70
 go_wp2_with fail
 rw[←HV.out.1]
 refine H1.out.mono ?_
 rintro e w1 ⟨rfl,hb1⟩
 have e0:=(hb1.cell (p:=⟨w.heap.size,0,none⟩) hlt).trans e0
 have e1:=(hb1.cell (p:=⟨w.heap.size,1,none⟩) hlt).trans e1
 have hlt1:w.heap.size<w1.heap.size:=Nat.lt_of_lt_of_le hlt hb1.size
 have HB1:=Lib.hid hb1
 clear hb1
 go_wp2_with fail
 have hal:=(Below.refl w1.heap.size w1).alloc (Nat.le_refl _) (.cells #[.bool b1,.string t1,.bool b2,.string t2] 34)
 refine(H2.out _ (HB1.out.trans (hal.mono HB1.out.size))).mono ?_
 rintro e w3 ⟨rfl,hb3⟩
 obtain⟨g0,g1,g2,g3,_⟩:=new_four w1 _ _ _ _ _ hb3
 have hb13:=hal.trans (hb3.mono hal.size)
 have hbW3:=HB1.out.trans (hb13.mono HB1.out.size)
 obtain⟨⟨c0,c1,c2,c3,c4,c5,c6,c7⟩,f0,f1,f2,f3,f4,f5,f6,f7⟩:=HV.out.2.2 w3 hbW3
 have hne:w1.heap.size<w3.heap.size:=by have:=hb3.size; simp at this; omega
 have hn2:w.heap.size+1<w3.heap.size:=by omega
 have hF:=HV.out.2.1.trans (hbW3.mono HV.out.2.1.size)
 have HF:=Lib.hid hF
 have HO:=Lib.hid (fun(h:¬(ShortF a∧ShortF b))=>show zG=outG a b∧(4:Int)=outGC a b by unfold outG outGC; rw[if_neg h,if_neg h]; exact⟨rfl,rfl⟩)
 clear e0 e1 hb3 hal hb13 hbW3 hF H1 H2
 by_cases x1:k1=0
 ·by_cases x2:k2=0
  ·have HG:=Lib.hid (And.intro (outG_of (HK.out.1.1 x1) (HK.out.2.1.1 x2) HK.out.2.2.1 HK.out.2.2.2) (show outGC a b=0 by unfold outGC; rw[if_pos ⟨HK.out.1.1 x1,HK.out.2.1.1 x2⟩]))
   subst x1 x2
   go_wp2_with fail
   refine bodyPost_ret (v:=.tuple #[.agg #[.bool b1,.string t1,.bool b2,.string t2,.bool b3,.string t3,.bool b4,.string t4],.int .i64 0]) (by simp[results,Tryz.results70,go_sem,c0,c1,c2,c3,c4,c5,c6,c7,hn2,cell_alloc_lt]) rfl ⟨by rw[HG.out.1,HG.out.2],?_⟩
   exact Below.alloc ((((((((HF.out.setCell (p:=⟨w.heap.size+1,0,none⟩) (Nat.le_succ _) _).setCell (p:=⟨w.heap.size+1,1,none⟩) (Nat.le_succ _) _).setCell (p:=⟨w.heap.size+1,2,none⟩) (Nat.le_succ _) _).setCell (p:=⟨w.heap.size+1,3,none⟩) (Nat.le_succ _) _).setCell (p:=⟨w.heap.size+1,4,none⟩) (Nat.le_succ _) _).setCell (p:=⟨w.heap.size+1,5,none⟩) (Nat.le_succ _) _).setCell (p:=⟨w.heap.size+1,6,none⟩) (Nat.le_succ _) _).setCell (p:=⟨w.heap.size+1,7,none⟩) (Nat.le_succ _) _) (by simp only[setCell_size]; exact(HF.out.size)) _
  ·have hx2:(k2 != 0)=true:=by simpa using x2
   have HN:=Lib.hid (HO.out (fun h=>x2 (HK.out.2.1.2 h.2)))
   subst x1
   go_wp2_with fail
   refine bodyPost_ret (v:=.tuple #[zG,.int .i64 4]) (by unfold zG; simp[results,Tryz.results70,go_sem,c0,c1,c2,c3,c4,c5,c6,c7,hn2,cell_alloc_lt]) rfl ⟨by rw[HN.out.1,HN.out.2],?_⟩
   exact Below.alloc ((((((((HF.out.setCell (p:=⟨w.heap.size+1,0,none⟩) (Nat.le_succ _) _).setCell (p:=⟨w.heap.size+1,1,none⟩) (Nat.le_succ _) _).setCell (p:=⟨w.heap.size+1,2,none⟩) (Nat.le_succ _) _).setCell (p:=⟨w.heap.size+1,3,none⟩) (Nat.le_succ _) _).setCell (p:=⟨w.heap.size+1,4,none⟩) (Nat.le_succ _) _).setCell (p:=⟨w.heap.size+1,5,none⟩) (Nat.le_succ _) _).setCell (p:=⟨w.heap.size+1,6,none⟩) (Nat.le_succ _) _).setCell (p:=⟨w.heap.size+1,7,none⟩) (Nat.le_succ _) _) (by simp only[setCell_size]; exact(HF.out.size)) _
 ·have hx1:(k1 != 0)=true:=by simpa using x1
  have HN:=Lib.hid (HO.out (fun h=>x1 (HK.out.1.2 h.1)))
  go_wp2_with fail
  refine bodyPost_ret (v:=.tuple #[zG,.int .i64 4]) (by unfold zG; simp[results,Tryz.results70,go_sem,c0,c1,c2,c3,c4,c5,c6,c7,hn2,cell_alloc_lt]) rfl ⟨by rw[HN.out.1,HN.out.2],?_⟩
  exact Below.alloc ((((((((HF.out.setCell (p:=⟨w.heap.size+1,0,none⟩) (Nat.le_succ _) _).setCell (p:=⟨w.heap.size+1,1,none⟩) (Nat.le_succ _) _).setCell (p:=⟨w.heap.size+1,2,none⟩) (Nat.le_succ _) _).setCell (p:=⟨w.heap.size+1,3,none⟩) (Nat.le_succ _) _).setCell (p:=⟨w.heap.size+1,4,none⟩) (Nat.le_succ _) _).setCell (p:=⟨w.heap.size+1,5,none⟩) (Nat.le_succ _) _).setCell (p:=⟨w.heap.size+1,6,none⟩) (Nat.le_succ _) _).setCell (p:=⟨w.heap.size+1,7,none⟩) (Nat.le_succ _) _) (by simp only[setCell_size]; exact(HF.out.size)) _
def MayF(v:Value):Fact:=fun u w A=>(¬FracOk v∧u=.pointer none)∨∃ q,v=encF q∧FracOk v∧RatP q u w A
theorem MayF.keeps(v:Value):(MayF v).Keeps:=fun u w w' A A' hs hk h=>h.imp id (fun⟨q,e,f,h⟩=>⟨q,e,f,RatP.keeps q u w w' A A' hs hk h⟩)
def NQ(z:QC):Fact:=NumO z.re z.im
theorem NQ.keeps(z:QC):(NQ z).Keeps:=NumO.keeps _ _
def GaussOk(v:Value):Prop:=∃ z:QC,v=encG z.re z.im∧ShortF z.re∧ShortF z.im
end Go.Proofs.YtplakbflfckldaaGreat
namespace Go.Proofs.YtplakbflfckldaaGreat
open Go.RowKit Tr
def OfF(v0:Value):Fact:=fun u w A=>∃ z,NQ z u w A∧(GaussOk v0→v0=encG z.re z.im)
theorem OfF.keeps(v0:Value):(OfF v0).Keeps:=fun u w w' A A' hs hk ⟨z,h,e⟩=>⟨z,NQ.keeps z u w w' A A' hs hk h,e⟩
end Go.Proofs.YtplakbflfckldaaGreat
namespace Go.Proofs.YtplakbflfckldaaGreat
open Go.RowKit Tr
end Go.Proofs.YtplakbflfckldaaGreat
set_option linter.unusedSimpArgs false
namespace Go.Proofs.YtplakbflfckldaaGreat
open Go.RowKit Tr
theorem qc_ext{x y:QC}(h1:x.re=y.re)(h2:x.im=y.im):x=y:=by cases x; cases y; simp at h1 h2; rw[h1,h2]
def frm8(cs:List Int)(a b n:BitVec 3):BitVec 3×BitVec 3×BitVec 3:=cs.foldl (fun s c=>(s.1*a - s.2.1*b+BitVec.ofInt 3 c*s.2.2,s.1*b+s.2.1*a,s.2.2*n)) (0,0,1)
def NoRoot(cs:List Int):Prop:=∀ a b n:BitVec 3,(frm8 cs a b n).1=0→(frm8 cs a b n).2.1=0→a.toNat % 2=0∧b.toNat % 2=0∧n.toNat % 2=0
instance (cs:List Int):Decidable (NoRoot cs):=by unfold NoRoot; infer_instance
def fg(s:QC):Nat→QC×QC
 | 0=>(⟨1,0⟩,⟨0,0⟩)
 | k+1=>(s*((fg s k).1 - (fg s k).2) - (fg s k).1,(fg s k).1 - (fg s k).2)
end Go.Proofs.YtplakbflfckldaaGreat
namespace Go.Proofs.YtplakbflfckldaaGreat
open Go.RowKit Tr
end Go.Proofs.YtplakbflfckldaaGreat
namespace Tr
end Tr
namespace Go.Proofs.YtplakbflfckldaaGreat
open Go.RowKit Tr
def OwnI(B:Nat)(z:Int)(w:World):Prop:=∃ C,w.heap[B]?=some (.cells C 185 (0,0))∧0+1<C.size∧NoW (.cells C 185 (0,0))∧IntP z (.pointer (some ⟨B,0,none⟩)) w NoA
theorem Put.own{B:Nat}{C:Array Value}{z:Int}{w w':World}(h:Put B 0 C 185 z w w')(ho:0+1<C.size)(hC:NoW (.cells C 185 (0,0))):OwnI B z w':=by
 have h1:=h.intP ho (A:=NoA) (fun _ h=>h.elim)
 obtain⟨h2,sl,h3,h4⟩:=h
 obtain⟨p,cap,rfl,_,_⟩:=id h4
 refine⟨_,h3,by simpa using ho,?_,h1.noA⟩
 intro cs T' fr e i k x hx
 cases e
 rw[Array.getElem?_setIfInBounds] at hx
 split at hx
 ·first|(split at hx<;>simp at hx; done)|(simp at hx; done)
 ·rw[Array.getElem?_setIfInBounds] at hx
  split at hx
  ·first|(split at hx<;>simp at hx; done)|(simp at hx; done)
  ·exact hC C _ (0,0) rfl i k x hx
end Go.Proofs.YtplakbflfckldaaGreat
namespace Tr
end Tr
namespace Go.Proofs.YtplakbflfckldaaGreat
open Go.RowKit Tr
end Go.Proofs.YtplakbflfckldaaGreat
namespace Go.Proofs.YtplakbflfckldaaGreat
open Go.RowKit Tr
end Go.Proofs.YtplakbflfckldaaGreat
namespace Go.Proofs.YtplakbflfckldaaGreat
open Go.RowKit Tr
end Go.Proofs.YtplakbflfckldaaGreat
namespace Go.Proofs.YtplakbflfckldaaGreat
open Go.RowKit Tr
end Go.Proofs.YtplakbflfckldaaGreat
