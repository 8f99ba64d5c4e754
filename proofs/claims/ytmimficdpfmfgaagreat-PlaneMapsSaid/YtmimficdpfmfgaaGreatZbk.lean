/- Laws for the walk. -/
import Derived.Test.YtmimficdpfmfgaaGreatZbj
import Derived.RangeFuncNested
import Derived.RangeFuncBound
import Derived.RangeFuncCalls
import Derived.RangeFuncLeaves
import Derived.RangeFuncBox
import Derived.Shelf.Abstract
import Derived.Shelf.RegionOpen
import Derived.OwnWalkIn
import Derived.TacticsInMore
import Derived.LoopNIn
import Derived.LoopIn
set_option linter.unusedVariables false
set_option linter.unusedSimpArgs false
set_option maxHeartbeats 4000000
namespace Go.Proofs.YtmimficdpfmfgaaGreat
open Go.RowKit Tr
open Classical
def wr14(e1 e2:Rat)(p r:QC):Rat:=((((⟨e1,e2⟩:QC)*p)*(cj r)).re)+((((⟨e1,e2⟩:QC)*p)*(cj r)).re)
theorem wr14_b0(e1 e2:Rat)(p r:QC){k:Nat}(b_e1:RL e1 k)(b_e2:RL e2 k)(b_p:ZL p 9000)(b_r:ZL r 9000):RL (wr14 e1 e2 p r) (8*k+108007):=(RL_add ((Qah (Qah (Qbp b_e1 b_e2) b_p) (Qbb b_r)).1) ((Qah (Qah (Qbp b_e1 b_e2) b_p) (Qbb b_r)).1)).mn
def wr15(e0 e1 e2 e3:Rat)(p r:QC):Rat:=((e0*(nm p))+(e3*(nm r)))+(wr14 e1 e2 p r)
theorem wr15_b0(e0 e1 e2 e3:Rat)(p r:QC){k:Nat}(b_e0:RL e0 k)(b_e1:RL e1 k)(b_e2:RL e2 k)(b_e3:RL e3 k)(b_p:ZL p 9000)(b_r:ZL r 9000):RL (wr15 e0 e1 e2 e3 p r) (10*k+180011):=(RL_add (RL_add (RL_mul b_e0 (Qbo b_p)) (RL_mul b_e3 (Qbo b_r))) (wr14_b0 e1 e2 p r b_e1 b_e2 b_p b_r)).mn
def wr16(e1 e2:Rat)(q s:QC):Rat:=((((⟨e1,e2⟩:QC)*q)*(cj s)).re)+((((⟨e1,e2⟩:QC)*q)*(cj s)).re)
theorem wr16_b0(e1 e2:Rat)(q s:QC){k:Nat}(b_e1:RL e1 k)(b_e2:RL e2 k)(b_q:ZL q 9000)(b_s:ZL s 9000):RL (wr16 e1 e2 q s) (8*k+108007):=(RL_add ((Qah (Qah (Qbp b_e1 b_e2) b_q) (Qbb b_s)).1) ((Qah (Qah (Qbp b_e1 b_e2) b_q) (Qbb b_s)).1)).mn
def wr17(e0 e1 e2 e3:Rat)(q s:QC):Rat:=((e0*(nm q))+(e3*(nm s)))+(wr16 e1 e2 q s)
theorem wr17_b0(e0 e1 e2 e3:Rat)(q s:QC){k:Nat}(b_e0:RL e0 k)(b_e1:RL e1 k)(b_e2:RL e2 k)(b_e3:RL e3 k)(b_q:ZL q 9000)(b_s:ZL s 9000):RL (wr17 e0 e1 e2 e3 q s) (10*k+180011):=(RL_add (RL_add (RL_mul b_e0 (Qbo b_q)) (RL_mul b_e3 (Qbo b_s))) (wr16_b0 e1 e2 q s b_e1 b_e2 b_q b_s)).mn
def wr18(e0:Rat)(p q:QC):QC:=(⟨e0,(0:Rat)⟩:QC)*(p*(cj q))
theorem wr18_b0(e0:Rat)(p q:QC){k:Nat}(b_e0:RL e0 k)(b_p:ZL p 9000)(b_q:ZL q 9000):ZL (wr18 e0 p q) (2*k+72007):=(Qah (Qbp (b_e0.upby 2) (ri 0)) (Qah b_p (Qbb b_q))).mn
def wr19(e0 e1 e2:Rat)(p q s:QC):QC:=(wr18 e0 p q)+(((⟨e1,e2⟩:QC)*p)*(cj s))
theorem wr19_b0(e0 e1 e2:Rat)(p q s:QC){k:Nat}(b_e0:RL e0 k)(b_e1:RL e1 k)(b_e2:RL e2 k)(b_p:ZL p 9000)(b_q:ZL q 9000)(b_s:ZL s 9000):ZL (wr19 e0 e1 e2 p q s) (6*k+126011):=(Qay (wr18_b0 e0 p q b_e0 b_p b_q) (Qah (Qah (Qbp b_e1 b_e2) b_p) (Qbb b_s))).mn
def wr20(e0 e1 e2:Rat)(p q r s:QC):QC:=(wr19 e0 e1 e2 p q s)+((cj ((⟨e1,e2⟩:QC)*q))*r)
theorem wr20_b0(e0 e1 e2:Rat)(p q r s:QC){k:Nat}(b_e0:RL e0 k)(b_e1:RL e1 k)(b_e2:RL e2 k)(b_p:ZL p 9000)(b_q:ZL q 9000)(b_r:ZL r 9000)(b_s:ZL s 9000):ZL (wr20 e0 e1 e2 p q r s) (10*k+180015):=(Qay (wr19_b0 e0 e1 e2 p q s b_e0 b_e1 b_e2 b_p b_q b_s) (Qah (Qbb (Qah (Qbp b_e1 b_e2) b_q)) b_r)).mn
def wr21(e3:Rat)(r s:QC):QC:=(⟨e3,(0:Rat)⟩:QC)*(r*(cj s))
theorem wr21_b0(e3:Rat)(r s:QC){k:Nat}(b_e3:RL e3 k)(b_r:ZL r 9000)(b_s:ZL s 9000):ZL (wr21 e3 r s) (2*k+72007):=(Qah (Qbp (b_e3.upby 2) (ri 0)) (Qah b_r (Qbb b_s))).mn
def wr22(e0 e1 e2 e3:Rat)(p q r s:QC):QC:=(wr20 e0 e1 e2 p q r s)+(wr21 e3 r s)
theorem wr22_b0(e0 e1 e2 e3:Rat)(p q r s:QC){k:Nat}(b_e0:RL e0 k)(b_e1:RL e1 k)(b_e2:RL e2 k)(b_e3:RL e3 k)(b_p:ZL p 9000)(b_q:ZL q 9000)(b_r:ZL r 9000)(b_s:ZL s 9000):ZL (wr22 e0 e1 e2 e3 p q r s) (12*k+252023):=(Qay (wr20_b0 e0 e1 e2 p q r s b_e0 b_e1 b_e2 b_p b_q b_r b_s) (wr21_b0 e3 r s b_e3 b_r b_s)).mn
theorem dImf(a b c d:QC)(e0 e1 e2 e3:Rat)(b_a:ZL a 1024)(b_b:ZL b 1024)(b_c:ZL c 1024)(b_d:ZL d 1024)(b_e0:RL e0 1024)(b_e1:RL e1 1024)(b_e2:RL e2 1024)(b_e3:RL e3 1024)(p q r s:QC)(b_p:ZL p 9000)(b_q:ZL q 9000)(b_r:ZL r 9000)(b_s:ZL s 9000)(HI:Qae Tryz.prog true 86 [.row (rG a++rG b++rG c++rG d++[gl (.bool false)])] (.r (.row (rG p++rG q++rG r++rG s++[gl (.bool false)]))))(hN:byF ((wr15 e0 e1 e2 e3 p r)) (((wr22 e0 e1 e2 e3 p q r s).re)) (((wr22 e0 e1 e2 e3 p q r s).im))≠0):Qae Tryz.prog true 94 [.row (rG a++rG b++rG c++rG d++[gl (.bool false)]),.row (rG (⟨e0,e1⟩:QC)++rG (⟨e2,e3⟩:QC))] (.r (.row (cirF (wr15 e0 e1 e2 e3 p r) ((wr22 e0 e1 e2 e3 p q r s).re) ((wr22 e0 e1 e2 e3 p q r s).im) (wr17 e0 e1 e2 e3 q s)))) :=
  Qaj (L := [cG a,cG b,cG c,cG d,cF e0,cF e1,cF e2,cF e3,cG p,cG q,cG r,cG s,cG (cj q),cG (cj r),cG (cj s),cG ((⟨e1,e2⟩ : QC) * p),cG ((⟨e1,e2⟩ : QC) * q),cF (nm p),cF (e0 * (nm p)),cF (nm r),cF (e3 * (nm r)),cF ((e0 * (nm p)) + (e3 * (nm r))),cG (((⟨e1,e2⟩ : QC) * p) * (cj r)),cF (wr14 e1 e2 p r),cF (wr15 e0 e1 e2 e3 p r),cF (nm q),cF (e0 * (nm q)),cF (nm s),cF (e3 * (nm s)),cF ((e0 * (nm q)) + (e3 * (nm s))),cG (((⟨e1,e2⟩ : QC) * q) * (cj s)),cF (wr16 e1 e2 q s),cF (wr17 e0 e1 e2 e3 q s),cF (0 : Rat),cG (p * (cj q)),cG (wr18 e0 p q),cG (((⟨e1,e2⟩ : QC) * p) * (cj s)),cG (wr19 e0 e1 e2 p q s),cG (cj ((⟨e1,e2⟩ : QC) * q)),cG ((cj ((⟨e1,e2⟩ : QC) * q)) * r),cG (wr20 e0 e1 e2 p q r s),cG (r * (cj s)),cG (wr21 e3 r s),cG (wr22 e0 e1 e2 e3 p q r s),cirF (wr15 e0 e1 e2 e3 p r) ((wr22 e0 e1 e2 e3 p q r s).re) ((wr22 e0 e1 e2 e3 p q r s).im) (wr17 e0 e1 e2 e3 q s)].flatten) tys_ok mixed
     [gs (HI) [.row (flA [gL [0,6,12,18],[.lit (.bool false)]])] (.r (.row (flA [gL [36,42,48,54],[.lit (.bool false)]]))),gs (rConj q) [.row (gR 42)] (.r (.row (gR 60))),gs (rConj r) [.row (gR 48)] (.r (.row (gR 66))),gs (rConj s) [.row (gR 54)] (.r (.row (gR 72))),gs (Qbi (⟨e1,e2⟩:QC) p ((Qbp b_e1 b_e2).mn) b_p.mn) [.row (gR 27),.row (gR 36)] (.r (.row (gR 78))),gs (Qbi (⟨e1,e2⟩:QC) q ((Qbp b_e1 b_e2).mn) b_q.mn) [.row (gR 27),.row (gR 42)] (.r (.row (gR 84))),gs (rNorm p b_p.mn) [.row (gR 36)] (rQ 90),gs (Qan e0 (nm p) b_e0.mn ((Qbo b_p).mn)) [.row (qS 24),.row (qS 90)] (rQ 93),gs (rNorm r b_r.mn) [.row (gR 48)] (rQ 96),gs (Qan e3 (nm r) b_e3.mn ((Qbo b_r).mn)) [.row (qS 33),.row (qS 96)] (rQ 99),gs (Qca (e0*(nm p)) (e3*(nm r)) ((RL_mul b_e0 (Qbo b_p)).mn) ((RL_mul b_e3 (Qbo b_r)).mn)) [.row (qS 93),.row (qS 99)] (rQ 102),gs (Qbi ((⟨e1,e2⟩:QC)*p) (cj r) ((Qah (Qbp b_e1 b_e2) b_p).mn) ((Qbb b_r).mn)) [.row (gR 78),.row (gR 66)] (.r (.row (gR 105))),gs (Qca ((((⟨e1,e2⟩:QC)*p)*(cj r)).re) ((((⟨e1,e2⟩:QC)*p)*(cj r)).re) (((Qah (Qah (Qbp b_e1 b_e2) b_p) (Qbb b_r)).1).mn) (((Qah (Qah (Qbp b_e1 b_e2) b_p) (Qbb b_r)).1).mn)) [.row (qS 105),.row (qS 105)] (rQ 111),gs (Qca ((e0*(nm p))+(e3*(nm r))) (wr14 e1 e2 p r) ((RL_add (RL_mul b_e0 (Qbo b_p)) (RL_mul b_e3 (Qbo b_r))).mn) ((wr14_b0 e1 e2 p r b_e1 b_e2 b_p b_r).mn)) [.row (qS 102),.row (qS 111)] (rQ 114),gs (rNorm q b_q.mn) [.row (gR 42)] (rQ 117),gs (Qan e0 (nm q) b_e0.mn ((Qbo b_q).mn)) [.row (qS 24),.row (qS 117)] (rQ 120),gs (rNorm s b_s.mn) [.row (gR 54)] (rQ 123),gs (Qan e3 (nm s) b_e3.mn ((Qbo b_s).mn)) [.row (qS 33),.row (qS 123)] (rQ 126),gs (Qca (e0*(nm q)) (e3*(nm s)) ((RL_mul b_e0 (Qbo b_q)).mn) ((RL_mul b_e3 (Qbo b_s)).mn)) [.row (qS 120),.row (qS 126)] (rQ 129),gs (Qbi ((⟨e1,e2⟩:QC)*q) (cj s) ((Qah (Qbp b_e1 b_e2) b_q).mn) ((Qbb b_s).mn)) [.row (gR 84),.row (gR 72)] (.r (.row (gR 132))),gs (Qca ((((⟨e1,e2⟩:QC)*q)*(cj s)).re) ((((⟨e1,e2⟩:QC)*q)*(cj s)).re) (((Qah (Qah (Qbp b_e1 b_e2) b_q) (Qbb b_s)).1).mn) (((Qah (Qah (Qbp b_e1 b_e2) b_q) (Qbb b_s)).1).mn)) [.row (qS 132),.row (qS 132)] (rQ 138),gs (Qca ((e0*(nm q))+(e3*(nm s))) (wr16 e1 e2 q s) ((RL_add (RL_mul b_e0 (Qbo b_q)) (RL_mul b_e3 (Qbo b_s))).mn) ((wr16_b0 e1 e2 q s b_e1 b_e2 b_q b_s).mn)) [.row (qS 129),.row (qS 138)] (rQ 141),gs (rfInt 0 (by decide) (by decide)) [lc 0] (rQ 144),gs (Qbi p (cj q) b_p.mn ((Qbb b_q).mn)) [.row (gR 36),.row (gR 60)] (.r (.row (gR 147))),gs (Qbi (⟨e0,(0:Rat)⟩:QC) (p*(cj q)) ((Qbp (b_e0.upby 2) (ri 0)).mn) ((Qah b_p (Qbb b_q)).mn)) [.row [.sym 24,.sym 25,.lit (.bool false),.sym 26,.sym 144,.sym 145,.lit (.bool false),.sym 146],.row (gR 147)] (.r (.row (gR 153))),gs (Qbi ((⟨e1,e2⟩:QC)*p) (cj s) ((Qah (Qbp b_e1 b_e2) b_p).mn) ((Qbb b_s).mn)) [.row (gR 78),.row (gR 72)] (.r (.row (gR 159))),gs (rPlus (wr18 e0 p q) (((⟨e1,e2⟩:QC)*p)*(cj s)) ((wr18_b0 e0 p q b_e0 b_p b_q).mn) ((Qah (Qah (Qbp b_e1 b_e2) b_p) (Qbb b_s)).mn)) [.row (gR 153),.row (gR 159)] (.r (.row (gR 165))),gs (rConj ((⟨e1,e2⟩:QC)*q)) [.row (gR 84)] (.r (.row (gR 171))),gs (Qbi (cj ((⟨e1,e2⟩:QC)*q)) r ((Qbb (Qah (Qbp b_e1 b_e2) b_q)).mn) b_r.mn) [.row (gR 171),.row (gR 48)] (.r (.row (gR 177))),gs (rPlus (wr19 e0 e1 e2 p q s) ((cj ((⟨e1,e2⟩:QC)*q))*r) ((wr19_b0 e0 e1 e2 p q s b_e0 b_e1 b_e2 b_p b_q b_s).mn) ((Qah (Qbb (Qah (Qbp b_e1 b_e2) b_q)) b_r).mn)) [.row (gR 165),.row (gR 177)] (.r (.row (gR 183))),gs (Qbi r (cj s) b_r.mn ((Qbb b_s).mn)) [.row (gR 48),.row (gR 72)] (.r (.row (gR 189))),gs (Qbi (⟨e3,(0:Rat)⟩:QC) (r*(cj s)) ((Qbp (b_e3.upby 2) (ri 0)).mn) ((Qah b_r (Qbb b_s)).mn)) [.row [.sym 33,.sym 34,.lit (.bool false),.sym 35,.sym 144,.sym 145,.lit (.bool false),.sym 146],.row (gR 189)] (.r (.row (gR 195))),gs (rPlus (wr20 e0 e1 e2 p q r s) (wr21 e3 r s) ((wr20_b0 e0 e1 e2 p q r s b_e0 b_e1 b_e2 b_p b_q b_r b_s).mn) ((wr21_b0 e3 r s b_e3 b_r b_s).mn)) [.row (gR 183),.row (gR 195)] (.r (.row (gR 201))),gs (dNor (wr15 e0 e1 e2 e3 p r) ((wr22 e0 e1 e2 e3 p q r s).re) ((wr22 e0 e1 e2 e3 p q r s).im) (wr17 e0 e1 e2 e3 q s) ((wr15_b0 e0 e1 e2 e3 p r b_e0 b_e1 b_e2 b_e3 b_p b_r).mn) (((wr22_b0 e0 e1 e2 e3 p q r s b_e0 b_e1 b_e2 b_e3 b_p b_q b_r b_s).1).mn) (((wr22_b0 e0 e1 e2 e3 p q r s b_e0 b_e1 b_e2 b_e3 b_p b_q b_r b_s).2).mn) ((wr17_b0 e0 e1 e2 e3 q s b_e0 b_e1 b_e2 b_e3 b_q b_s).mn) hN) [.row (qS 114),.row (gR 201),.row (qS 141)] (.r (.row (Qab 207 16)))]
     [] [] ((fs184 .nil):Tr.FnsOk Tryz.prog _) 1 2 Tryz.func94 eo94 2000 [.row (flA [gL [0,6,12,18],[.lit (.bool false)]]),.row (gL [24,30])] (.r (.row (Qab 207 16)))
theorem dImt(a b c d:QC)(e0 e1 e2 e3:Rat)(b_a:ZL a 1024)(b_b:ZL b 1024)(b_c:ZL c 1024)(b_d:ZL d 1024)(b_e0:RL e0 1024)(b_e1:RL e1 1024)(b_e2:RL e2 1024)(b_e3:RL e3 1024)(p q r s:QC)(b_p:ZL p 9000)(b_q:ZL q 9000)(b_r:ZL r 9000)(b_s:ZL s 9000)(HI:Qae Tryz.prog true 86 [.row (rG a++rG b++rG c++rG d++[gl (.bool true)])] (.r (.row (rG p++rG q++rG r++rG s++[gl (.bool true)]))))(hN:byF ((wr15 e0 e1 e2 e3 p r)) (((cj (wr22 e0 e1 e2 e3 p q r s)).re)) (((cj (wr22 e0 e1 e2 e3 p q r s)).im))≠0):Qae Tryz.prog true 94 [.row (rG a++rG b++rG c++rG d++[gl (.bool true)]),.row (rG (⟨e0,e1⟩:QC)++rG (⟨e2,e3⟩:QC))] (.r (.row (cirF (wr15 e0 e1 e2 e3 p r) ((cj (wr22 e0 e1 e2 e3 p q r s)).re) ((cj (wr22 e0 e1 e2 e3 p q r s)).im) (wr17 e0 e1 e2 e3 q s)))) :=
  Qaj (L := [cG a,cG b,cG c,cG d,cF e0,cF e1,cF e2,cF e3,cG p,cG q,cG r,cG s,cG (cj q),cG (cj r),cG (cj s),cG ((⟨e1,e2⟩ : QC) * p),cG ((⟨e1,e2⟩ : QC) * q),cF (nm p),cF (e0 * (nm p)),cF (nm r),cF (e3 * (nm r)),cF ((e0 * (nm p)) + (e3 * (nm r))),cG (((⟨e1,e2⟩ : QC) * p) * (cj r)),cF (wr14 e1 e2 p r),cF (wr15 e0 e1 e2 e3 p r),cF (nm q),cF (e0 * (nm q)),cF (nm s),cF (e3 * (nm s)),cF ((e0 * (nm q)) + (e3 * (nm s))),cG (((⟨e1,e2⟩ : QC) * q) * (cj s)),cF (wr16 e1 e2 q s),cF (wr17 e0 e1 e2 e3 q s),cF (0 : Rat),cG (p * (cj q)),cG (wr18 e0 p q),cG (((⟨e1,e2⟩ : QC) * p) * (cj s)),cG (wr19 e0 e1 e2 p q s),cG (cj ((⟨e1,e2⟩ : QC) * q)),cG ((cj ((⟨e1,e2⟩ : QC) * q)) * r),cG (wr20 e0 e1 e2 p q r s),cG (r * (cj s)),cG (wr21 e3 r s),cG (wr22 e0 e1 e2 e3 p q r s),cG (cj (wr22 e0 e1 e2 e3 p q r s)),cirF (wr15 e0 e1 e2 e3 p r) ((cj (wr22 e0 e1 e2 e3 p q r s)).re) ((cj (wr22 e0 e1 e2 e3 p q r s)).im) (wr17 e0 e1 e2 e3 q s)].flatten) tys_ok mixed
     [gs (HI) [.row (flA [gL [0,6,12,18],[.lit (.bool true)]])] (.r (.row (flA [gL [36,42,48,54],[.lit (.bool true)]]))),gs (rConj q) [.row (gR 42)] (.r (.row (gR 60))),gs (rConj r) [.row (gR 48)] (.r (.row (gR 66))),gs (rConj s) [.row (gR 54)] (.r (.row (gR 72))),gs (Qbi (⟨e1,e2⟩:QC) p ((Qbp b_e1 b_e2).mn) b_p.mn) [.row (gR 27),.row (gR 36)] (.r (.row (gR 78))),gs (Qbi (⟨e1,e2⟩:QC) q ((Qbp b_e1 b_e2).mn) b_q.mn) [.row (gR 27),.row (gR 42)] (.r (.row (gR 84))),gs (rNorm p b_p.mn) [.row (gR 36)] (rQ 90),gs (Qan e0 (nm p) b_e0.mn ((Qbo b_p).mn)) [.row (qS 24),.row (qS 90)] (rQ 93),gs (rNorm r b_r.mn) [.row (gR 48)] (rQ 96),gs (Qan e3 (nm r) b_e3.mn ((Qbo b_r).mn)) [.row (qS 33),.row (qS 96)] (rQ 99),gs (Qca (e0*(nm p)) (e3*(nm r)) ((RL_mul b_e0 (Qbo b_p)).mn) ((RL_mul b_e3 (Qbo b_r)).mn)) [.row (qS 93),.row (qS 99)] (rQ 102),gs (Qbi ((⟨e1,e2⟩:QC)*p) (cj r) ((Qah (Qbp b_e1 b_e2) b_p).mn) ((Qbb b_r).mn)) [.row (gR 78),.row (gR 66)] (.r (.row (gR 105))),gs (Qca ((((⟨e1,e2⟩:QC)*p)*(cj r)).re) ((((⟨e1,e2⟩:QC)*p)*(cj r)).re) (((Qah (Qah (Qbp b_e1 b_e2) b_p) (Qbb b_r)).1).mn) (((Qah (Qah (Qbp b_e1 b_e2) b_p) (Qbb b_r)).1).mn)) [.row (qS 105),.row (qS 105)] (rQ 111),gs (Qca ((e0*(nm p))+(e3*(nm r))) (wr14 e1 e2 p r) ((RL_add (RL_mul b_e0 (Qbo b_p)) (RL_mul b_e3 (Qbo b_r))).mn) ((wr14_b0 e1 e2 p r b_e1 b_e2 b_p b_r).mn)) [.row (qS 102),.row (qS 111)] (rQ 114),gs (rNorm q b_q.mn) [.row (gR 42)] (rQ 117),gs (Qan e0 (nm q) b_e0.mn ((Qbo b_q).mn)) [.row (qS 24),.row (qS 117)] (rQ 120),gs (rNorm s b_s.mn) [.row (gR 54)] (rQ 123),gs (Qan e3 (nm s) b_e3.mn ((Qbo b_s).mn)) [.row (qS 33),.row (qS 123)] (rQ 126),gs (Qca (e0*(nm q)) (e3*(nm s)) ((RL_mul b_e0 (Qbo b_q)).mn) ((RL_mul b_e3 (Qbo b_s)).mn)) [.row (qS 120),.row (qS 126)] (rQ 129),gs (Qbi ((⟨e1,e2⟩:QC)*q) (cj s) ((Qah (Qbp b_e1 b_e2) b_q).mn) ((Qbb b_s).mn)) [.row (gR 84),.row (gR 72)] (.r (.row (gR 132))),gs (Qca ((((⟨e1,e2⟩:QC)*q)*(cj s)).re) ((((⟨e1,e2⟩:QC)*q)*(cj s)).re) (((Qah (Qah (Qbp b_e1 b_e2) b_q) (Qbb b_s)).1).mn) (((Qah (Qah (Qbp b_e1 b_e2) b_q) (Qbb b_s)).1).mn)) [.row (qS 132),.row (qS 132)] (rQ 138),gs (Qca ((e0*(nm q))+(e3*(nm s))) (wr16 e1 e2 q s) ((RL_add (RL_mul b_e0 (Qbo b_q)) (RL_mul b_e3 (Qbo b_s))).mn) ((wr16_b0 e1 e2 q s b_e1 b_e2 b_q b_s).mn)) [.row (qS 129),.row (qS 138)] (rQ 141),gs (rfInt 0 (by decide) (by decide)) [lc 0] (rQ 144),gs (Qbi p (cj q) b_p.mn ((Qbb b_q).mn)) [.row (gR 36),.row (gR 60)] (.r (.row (gR 147))),gs (Qbi (⟨e0,(0:Rat)⟩:QC) (p*(cj q)) ((Qbp (b_e0.upby 2) (ri 0)).mn) ((Qah b_p (Qbb b_q)).mn)) [.row [.sym 24,.sym 25,.lit (.bool false),.sym 26,.sym 144,.sym 145,.lit (.bool false),.sym 146],.row (gR 147)] (.r (.row (gR 153))),gs (Qbi ((⟨e1,e2⟩:QC)*p) (cj s) ((Qah (Qbp b_e1 b_e2) b_p).mn) ((Qbb b_s).mn)) [.row (gR 78),.row (gR 72)] (.r (.row (gR 159))),gs (rPlus (wr18 e0 p q) (((⟨e1,e2⟩:QC)*p)*(cj s)) ((wr18_b0 e0 p q b_e0 b_p b_q).mn) ((Qah (Qah (Qbp b_e1 b_e2) b_p) (Qbb b_s)).mn)) [.row (gR 153),.row (gR 159)] (.r (.row (gR 165))),gs (rConj ((⟨e1,e2⟩:QC)*q)) [.row (gR 84)] (.r (.row (gR 171))),gs (Qbi (cj ((⟨e1,e2⟩:QC)*q)) r ((Qbb (Qah (Qbp b_e1 b_e2) b_q)).mn) b_r.mn) [.row (gR 171),.row (gR 48)] (.r (.row (gR 177))),gs (rPlus (wr19 e0 e1 e2 p q s) ((cj ((⟨e1,e2⟩:QC)*q))*r) ((wr19_b0 e0 e1 e2 p q s b_e0 b_e1 b_e2 b_p b_q b_s).mn) ((Qah (Qbb (Qah (Qbp b_e1 b_e2) b_q)) b_r).mn)) [.row (gR 165),.row (gR 177)] (.r (.row (gR 183))),gs (Qbi r (cj s) b_r.mn ((Qbb b_s).mn)) [.row (gR 48),.row (gR 72)] (.r (.row (gR 189))),gs (Qbi (⟨e3,(0:Rat)⟩:QC) (r*(cj s)) ((Qbp (b_e3.upby 2) (ri 0)).mn) ((Qah b_r (Qbb b_s)).mn)) [.row [.sym 33,.sym 34,.lit (.bool false),.sym 35,.sym 144,.sym 145,.lit (.bool false),.sym 146],.row (gR 189)] (.r (.row (gR 195))),gs (rPlus (wr20 e0 e1 e2 p q r s) (wr21 e3 r s) ((wr20_b0 e0 e1 e2 p q r s b_e0 b_e1 b_e2 b_p b_q b_r b_s).mn) ((wr21_b0 e3 r s b_e3 b_r b_s).mn)) [.row (gR 183),.row (gR 195)] (.r (.row (gR 201))),gs (rConj (wr22 e0 e1 e2 e3 p q r s)) [.row (gR 201)] (.r (.row (gR 207))),gs (dNor (wr15 e0 e1 e2 e3 p r) ((cj (wr22 e0 e1 e2 e3 p q r s)).re) ((cj (wr22 e0 e1 e2 e3 p q r s)).im) (wr17 e0 e1 e2 e3 q s) ((wr15_b0 e0 e1 e2 e3 p r b_e0 b_e1 b_e2 b_e3 b_p b_r).mn) (((Qbb (wr22_b0 e0 e1 e2 e3 p q r s b_e0 b_e1 b_e2 b_e3 b_p b_q b_r b_s)).1).mn) (((Qbb (wr22_b0 e0 e1 e2 e3 p q r s b_e0 b_e1 b_e2 b_e3 b_p b_q b_r b_s)).2).mn) ((wr17_b0 e0 e1 e2 e3 q s b_e0 b_e1 b_e2 b_e3 b_q b_s).mn) hN) [.row (qS 114),.row (gR 207),.row (qS 141)] (.r (.row (Qab 213 16)))]
     [] [] ((fs184 .nil):Tr.FnsOk Tryz.prog _) 1 2 Tryz.func94 eo94 2000 [.row (flA [gL [0,6,12,18],[.lit (.bool true)]]),.row (gL [24,30])] (.r (.row (Qab 213 16)))
end Go.Proofs.YtmimficdpfmfgaaGreat
namespace Go.Proofs.YtmimficdpfmfgaaGreat
open Go.RowKit Go.Shelf
attribute [local go_sem] Oper.semAt_some
def Holds1{α:Type}(enc:α→Value)(n₀:Nat)(W:World)(sv:Value)(f:Nat→α)(len:Nat):Prop :=
 (sv=.slice none 0 0∧len=0)∨∃ b off cap,sv=.slice (some ⟨b,off,none⟩) len cap∧b<n₀∧∀ j,j<len→W.cell? ⟨b,off+j,none⟩=some (enc (f j))
theorem Holds1.below{α:Type}{enc:α→Value}{n₀:Nat}{A B:World}(h:Below n₀ A B){sv:Value}{f:Nat→α}{len:Nat}:Holds1 enc n₀ A sv f len→Holds1 enc n₀ B sv f len
 | .inl e=>.inl e
 | .inr ⟨b,off,cap,e,hb,hc⟩=>.inr ⟨b,off,cap,e,hb,fun j hj=>(h.cell (p:=⟨b,off+j,none⟩) hb).trans (hc j hj)⟩
end Go.Proofs.YtmimficdpfmfgaaGreat
namespace Go.Proofs.YtmimficdpfmfgaaGreat
open Go.RowKit Go.Shelf
attribute [local go_sem] Oper.semAt_some
end Go.Proofs.YtmimficdpfmfgaaGreat
namespace Go.Proofs.YtmimficdpfmfgaaGreat
open Go.RowKit Go.Shelf
end Go.Proofs.YtmimficdpfmfgaaGreat
namespace Go.Proofs.YtmimficdpfmfgaaGreat
open Go.RowKit Go.Shelf Tr
attribute [local go_sem] Oper.semAt_some
def AW(A:Nat→Prop)(x B:Nat)(W:World)(k:Nat):Prop:=A k∨k=x∨(B≤k∧∃ o,W.heap[k]?=some o∧o.isCells=false)
theorem AW.lt{A:Nat→Prop}{x B:Nat}{W:World}(hA:∀ n,A n→n<W.heap.size)(hx:x<W.heap.size){k:Nat}(h:AW A x B W k):k<W.heap.size:=by
 rcases h with h|rfl|⟨_,o,h,_⟩
 ·exact hA k h
 ·exact hx
 ·exact(Array.getElem?_eq_some_iff.1 h).1
theorem AW.rcv{A:Nat→Prop}{x B:Nat}{W:World}(hA:Rcv A W){vs:List Value}{t:TypeId}(hx:W.heap[x]?=some (.cells vs.toArray t (0,0)))(hn:NoW (.cells vs.toArray t (0,0))):Rcv (AW A x B W) W:=by
 intro k h
 rcases h with h|rfl|⟨_,o,h,ho⟩
 ·exact hA k h
 ·exact⟨_,hx,hn⟩
 ·refine⟨o,h,?_⟩
  intro cs T fr e
  subst e
  cases ho
end Go.Proofs.YtmimficdpfmfgaaGreat
namespace Go.Proofs.YtmimficdpfmfgaaGreat
open Go.RowKit Tr
open Classical
section
variable(t u:Bool)(m p:Q4)
end
def Qbn(m:Q4):Prop:=Sh4 m∧Nf m∧dq m≠⟨0,0⟩
theorem Qax(m:Q4)(t:Bool)(h:Qbn m):Qae Tryz.prog true 75 [.row (mQ m t)] (.tup [.row (mR m t),.c (gl (.bool true))]):=by
 obtain⟨a,b,c,d⟩:=m
 obtain⟨⟨h1,h2,h3,h4⟩,hn,hd⟩:=h
 have k:=(eOpen a b c d t h1 h2 h3 h4).f hd
 by_cases hc:c=⟨1,0⟩
 ·exact k.t hc
 ·exact(k.f hc).t (hn.resolve_left hc)
end Go.Proofs.YtmimficdpfmfgaaGreat
namespace Go.Proofs.YtmimficdpfmfgaaGreat
open Go.RowKit Tr
theorem qdR(x y:QC):(x / y).re=(x.re*y.re - x.im*(-y.im))*(y.re*y.re+y.im*y.im)⁻¹:=rfl
theorem qdI(x y:QC):(x / y).im=(x.re*(-y.im)+x.im*y.re)*(y.re*y.re+y.im*y.im)⁻¹:=rfl
theorem sg_im{x y:QC}(h:y≠⟨0,0⟩):((x / y).im).num.sign=0↔(x*cj y).im=0:=by
 rw[ssgn,qdI]
 have n:=qc_nz h
 have e:(x*cj y).im=x.re*(-y.im)+x.im*y.re:=rfl
 rw[e]
 grind
theorem sg_nm{x y:QC}(h:y≠⟨0,0⟩):(((1:Rat) - nm (x / y)).num.sign)=0↔nm x=nm y:=by
 rw[ssgn]
 have n:=qc_nz h
 unfold nm
 rw[qdR,qdI]
 grind
theorem cj0_im{x:QC}:(x*cj ⟨0,0⟩).im=0:=by
 have e:(x*cj ⟨0,0⟩).im=x.re*(-0)+x.im*0:=rfl
 rw[e]; grind
theorem tw1(t:Bool):tw t ⟨1,0⟩=⟨1,0⟩:=by cases t<;>rfl
theorem twm(t:Bool):tw t ⟨-1,0⟩=⟨-1,0⟩:=by cases t<;>rfl
theorem tw0(t:Bool):tw t ⟨0,0⟩=⟨0,0⟩:=by cases t<;>rfl
def xU(b d:QC):Rat:=b.im*d.re - b.re*d.im
def zU(a b c d:QC):Rat:=a.im*d.re - a.re*d.im+b.im*c.re - b.re*c.im
theorem edge_im{t:Bool}{a b c d w:QC}:(den t c d w=⟨0,0⟩∨((snd t a b c d w).im).num.sign=0)↔((a*tw t w+b)*cj (den t c d w)).im=0:=by
 by_cases h:den t c d w=⟨0,0⟩
 ·simp[h,cj0_im]
 ·simp only[h,false_or]; exact sg_im h
def C0(t:Bool)(a b c d:QC):Prop:=den t c d ⟨0,1⟩=⟨0,0⟩∨((snd t a b c d ⟨0,1⟩).im).num.sign≤0
def PE(t:Bool)(a b c d w:QC):Prop:=den t c d w=⟨0,0⟩∨((snd t a b c d w).im).num.sign=0
theorem edges{t:Bool}{a b c d:QC}:(PE t a b c d ⟨1,0⟩∧PE t a b c d ⟨-1,0⟩∧PE t a b c d ⟨0,0⟩)↔(xU b d=0∧xU a c=0∧zU a b c d=0):=by
 unfold PE
 rw[edge_im,edge_im,edge_im]
 unfold den
 rw[tw1,twm,tw0]
 simp only[cj,qmr,qmi,qar,qai,xU,zU]
 constructor
 ·rintro⟨h1,h2,h3⟩; refine⟨?_,?_,?_⟩<;>grind
 ·rintro⟨h1,h2,h3⟩; refine⟨?_,?_,?_⟩<;>grind
theorem upEq{a b c d:QC}(hd:dq (a,b,c,d)≠⟨0,0⟩)(X:xU b d=0)(Y:xU a c=0)(Z:zU a b c d=0):xU d c=0∧xU b a=0∧zU d b c a=0:=by
 have h:(dq (a,b,c,d)).re≠0∨(dq (a,b,c,d)).im≠0:=by
  by_cases h1:(dq (a,b,c,d)).re=0
  ·by_cases h2:(dq (a,b,c,d)).im=0
   ·exact absurd (Qbz h1 h2) hd
   ·exact .inr h2
  ·exact .inl h1
 have e1:(dq (a,b,c,d)).re=a.re*d.re - a.im*d.im - (b.re*c.re - b.im*c.im):=rfl
 have e2:(dq (a,b,c,d)).im=a.re*d.im+a.im*d.re - (b.re*c.im+b.im*c.re):=rfl
 rw[e1,e2] at h
 clear e1 e2 hd
 unfold xU at X Y
 unfold zU at Z
 unfold xU zU
 have k1:(a.re*d.re - a.im*d.im - (b.re*c.re - b.im*c.im))*(d.im*c.re - d.re*c.im)=0:=by grind
 have k2:(a.re*d.im+a.im*d.re - (b.re*c.im+b.im*c.re))*(d.im*c.re - d.re*c.im)=0:=by grind
 have k3:(a.re*d.re - a.im*d.im - (b.re*c.re - b.im*c.im))*(b.im*a.re - b.re*a.im)=0:=by grind
 have k4:(a.re*d.im+a.im*d.re - (b.re*c.im+b.im*c.re))*(b.im*a.re - b.re*a.im)=0:=by grind
 have k5:(a.re*d.re - a.im*d.im - (b.re*c.re - b.im*c.im))*(d.im*a.re - d.re*a.im+b.im*c.re - b.re*c.im)=0:=by grind
 have k6:(a.re*d.im+a.im*d.re - (b.re*c.im+b.im*c.re))*(d.im*a.re - d.re*a.im+b.im*c.re - b.re*c.im)=0:=by grind
 rcases h with h|h
 ·exact⟨(Rat.mul_eq_zero.1 k1).resolve_left h,(Rat.mul_eq_zero.1 k3).resolve_left h,(Rat.mul_eq_zero.1 k5).resolve_left h⟩
 ·exact⟨(Rat.mul_eq_zero.1 k2).resolve_left h,(Rat.mul_eq_zero.1 k4).resolve_left h,(Rat.mul_eq_zero.1 k6).resolve_left h⟩
theorem dq_sw{a b c d:QC}:dq (d,b,c,a)=dq (a,b,c,d):=by
 simp only[dq]
 apply Qbz<;>simp only[qmr,qmi,qsr,qsi]<;>grind
theorem up_iff{a b c d:QC}(hd:dq (a,b,c,d)≠⟨0,0⟩):(xU b d=0∧xU a c=0∧zU a b c d=0)↔(xU d c=0∧xU b a=0∧zU d b c a=0) :=
 ⟨fun h=>upEq hd h.1 h.2.1 h.2.2,fun h=>by
  have k:=upEq (a:=d) (b:=b) (c:=c) (d:=a) (by rw[dq_sw]; exact hd) h.2.1 h.1 h.2.2
  exact⟨k.2.1,k.1,k.2.2⟩⟩
def sD(a b c d:QC):Rat:=nm a+nm b - nm c - nm d
def tRe(a b c d:QC):Rat:=a.re*b.re+a.im*b.im - (c.re*d.re+c.im*d.im)
def tIm(a b c d:QC):Rat:=a.im*b.re - a.re*b.im - (c.im*d.re - c.re*d.im)
theorem dq_nz{a b c d:QC}(hd:dq (a,b,c,d)≠⟨0,0⟩):nm (dq (a,b,c,d))≠0:=qc_nz hd
theorem dq_parts(a b c d:QC):nm (dq (a,b,c,d))=(a.re*d.re - a.im*d.im - (b.re*c.re - b.im*c.im))*(a.re*d.re - a.im*d.im - (b.re*c.re - b.im*c.im))+(a.re*d.im+a.im*d.re - (b.re*c.im+b.im*c.re))*(a.re*d.im+a.im*d.re - (b.re*c.im+b.im*c.re)):=rfl
theorem rdEq{a b c d:QC}(hd:dq (a,b,c,d)≠⟨0,0⟩)(hS:sD a b c d=0)(h1:tRe a b c d=0)(h2:tIm a b c d=0):nm a - nm c≠0∧sD a c b d=0∧tRe a c b d=0∧tIm a c b d=0:=by
 have hn:=dq_nz hd
 rw[dq_parts] at hn
 unfold sD nm at hS
 unfold tRe at h1
 unfold tIm at h2
 have k:nm a - nm c≠0:=fun e=>hn (by unfold nm at e; grind)
 have e0:nm a - nm c=a.re*a.re+a.im*a.im - (c.re*c.re+c.im*c.im):=rfl
 refine⟨k,?_,?_,?_⟩
 ·have q:(nm a - nm c)*sD a c b d=0:=by rw[e0]; unfold sD nm; grind
  exact(Rat.mul_eq_zero.1 q).resolve_left k
 ·have q:(nm a - nm c)*tRe a c b d=0:=by rw[e0]; unfold tRe; grind
  exact(Rat.mul_eq_zero.1 q).resolve_left k
 ·have q:(nm a - nm c)*tIm a c b d=0:=by rw[e0]; unfold tIm; grind
  exact(Rat.mul_eq_zero.1 q).resolve_left k
theorem dq_tr{a b c d:QC}:dq (a,c,b,d)=dq (a,b,c,d):=by
 simp only[dq]
 apply Qbz<;>simp only[qmr,qmi,qsr,qsi]<;>grind
theorem rd_iff{a b c d:QC}(hd:dq (a,b,c,d)≠⟨0,0⟩):(sD a b c d=0∧tRe a b c d=0∧tIm a b c d=0)↔(nm a - nm b≠0∧sD a c b d=0∧tRe a c b d=0∧tIm a c b d=0):=by
 constructor
 ·rintro⟨h1,h2,h3⟩
  obtain⟨_,k1,k2,k3⟩:=rdEq hd h1 h2 h3
  exact⟨(rdEq (by rw[dq_tr]; exact hd) k1 k2 k3).1,k1,k2,k3⟩
 ·rintro⟨_,h1,h2,h3⟩
  exact(rdEq (by rw[dq_tr]; exact hd) h1 h2 h3).2
def PR(t:Bool)(a b c d w:QC):Prop:=¬(den t c d w=⟨0,0⟩)∧(((1:Rat) - nm (snd t a b c d w)).num.sign)=0
theorem den0{a b c d v:QC}(hd:dq (a,b,c,d)≠⟨0,0⟩)(h:c*v+d=⟨0,0⟩):nm (a*v+b)≠0:=fun e=>hd (by
 have e1:=congrArg QC.re h
 have e2:=congrArg QC.im h
 have e3:=norm_zero.1 e
 have e4:=qc0.2 e3
 have e5:=congrArg QC.re e4
 have e6:=congrArg QC.im e4
 simp only[qmr,qmi,qar,qai] at e1 e2 e5 e6
 simp only[dq]
 apply Qbz<;>simp only[qmr,qmi,qsr,qsi]<;>grind)
theorem edge_nm{t:Bool}{a b c d w:QC}(hd:dq (a,b,c,d)≠⟨0,0⟩):PR t a b c d w↔nm (a*tw t w+b)=nm (den t c d w):=by
 unfold PR
 by_cases h:den t c d w=⟨0,0⟩
 ·constructor
  ·exact fun k=>absurd h k.1
  ·intro k
   rw[h] at k
   exact absurd (k.trans (by unfold nm; grind)) (den0 hd h)
 ·constructor
  ·exact fun k=>(sg_nm h).1 k.2
  ·exact fun k=>⟨h,(sg_nm h).2 k⟩
theorem twi(t:Bool):tw t ⟨0,1⟩=⟨0,if t then -1 else 1⟩:=by cases t<;>rfl
theorem edgesR{t:Bool}{a b c d:QC}(hd:dq (a,b,c,d)≠⟨0,0⟩):(PR t a b c d ⟨1,0⟩∧PR t a b c d ⟨-1,0⟩∧PR t a b c d ⟨0,1⟩)↔(sD a b c d=0∧tRe a b c d=0∧tIm a b c d=0):=by
 rw[edge_nm hd,edge_nm hd,edge_nm hd]
 unfold den
 rw[tw1,twm,twi]
 cases t
 ·simp only[Bool.false_eq_true,if_false,nm,qmr,qmi,qar,qai,sD,tRe,tIm]
  constructor
  ·rintro⟨h1,h2,h3⟩; refine⟨?_,?_,?_⟩<;>grind
  ·rintro⟨h1,h2,h3⟩; refine⟨?_,?_,?_⟩<;>grind
 ·simp only[if_true,nm,qmr,qmi,qar,qai,sD,tRe,tIm]
  constructor
  ·rintro⟨h1,h2,h3⟩; refine⟨?_,?_,?_⟩<;>grind
  ·rintro⟨h1,h2,h3⟩; refine⟨?_,?_,?_⟩<;>grind
open Classical
theorem rInvf(a b c d:QC)(b_a:ZL a 1024)(b_b:ZL b 1024)(b_c:ZL c 1024)(b_d:ZL d 1024)(hd:dq (d,ng b,ng c,a)≠⟨0,0⟩):Qae Tryz.prog true 86 [.row (rG a++rG b++rG c++rG d++[gl (.bool false)])] (.r (.row (rG ((nm4 (d,ng b,ng c,a)).1)++rG ((nm4 (d,ng b,ng c,a)).2.1)++rG ((nm4 (d,ng b,ng c,a)).2.2.1)++rG ((nm4 (d,ng b,ng c,a)).2.2.2)++[gl (.bool false)]))) :=
  Qaj (L := [cG a,cG b,cG c,cG d,cG (ng b),cG (ng c),cG ((nm4 (d,ng b,ng c,a)).1),cG ((nm4 (d,ng b,ng c,a)).2.1),cG ((nm4 (d,ng b,ng c,a)).2.2.1),cG ((nm4 (d,ng b,ng c,a)).2.2.2)].flatten) tys_ok mixed
     [gs (rGNeg b) [.row (gR 6)] (.r (.row (gR 24))),gs (rGNeg c) [.row (gR 12)] (.r (.row (gR 30))),gs (rNorm4 (d,ng b,ng c,a) false ⟨b_d.mn,((ZL_ng b_b).mn),((ZL_ng b_c).mn),b_a.mn⟩ hd) [.row (gR 18),.row (gR 24),.row (gR 30),.row (gR 0),.c (.lit (.bool false))] (.r (.row (flA [gL [36,42,48,54],[.lit (.bool false)]])))]
     [] [] ((fs181 .nil):Tr.FnsOk Tryz.prog _) 1 1 Tryz.func86 eo86 2000 [.row (flA [gL [0,6,12,18],[.lit (.bool false)]])] (.r (.row (flA [gL [36,42,48,54],[.lit (.bool false)]])))
theorem rInvt(a b c d:QC)(b_a:ZL a 1024)(b_b:ZL b 1024)(b_c:ZL c 1024)(b_d:ZL d 1024)(hd:dq (cj d,cj (ng b),cj (ng c),cj a)≠⟨0,0⟩):Qae Tryz.prog true 86 [.row (rG a++rG b++rG c++rG d++[gl (.bool true)])] (.r (.row (rG ((nm4 (cj d,cj (ng b),cj (ng c),cj a)).1)++rG ((nm4 (cj d,cj (ng b),cj (ng c),cj a)).2.1)++rG ((nm4 (cj d,cj (ng b),cj (ng c),cj a)).2.2.1)++rG ((nm4 (cj d,cj (ng b),cj (ng c),cj a)).2.2.2)++[gl (.bool true)]))) :=
  Qaj (L := [cG a,cG b,cG c,cG d,cG (cj d),cG (ng b),cG (cj (ng b)),cG (ng c),cG (cj (ng c)),cG (cj a),cG ((nm4 (cj d,cj (ng b),cj (ng c),cj a)).1),cG ((nm4 (cj d,cj (ng b),cj (ng c),cj a)).2.1),cG ((nm4 (cj d,cj (ng b),cj (ng c),cj a)).2.2.1),cG ((nm4 (cj d,cj (ng b),cj (ng c),cj a)).2.2.2)].flatten) tys_ok mixed
     [gs (rConj d) [.row (gR 18)] (.r (.row (gR 24))),gs (rGNeg b) [.row (gR 6)] (.r (.row (gR 30))),gs (rConj (ng b)) [.row (gR 30)] (.r (.row (gR 36))),gs (rGNeg c) [.row (gR 12)] (.r (.row (gR 42))),gs (rConj (ng c)) [.row (gR 42)] (.r (.row (gR 48))),gs (rConj a) [.row (gR 0)] (.r (.row (gR 54))),gs (rNorm4 (cj d,cj (ng b),cj (ng c),cj a) true ⟨((Qbb b_d).mn),((Qbb (ZL_ng b_b)).mn),((Qbb (ZL_ng b_c)).mn),((Qbb b_a).mn)⟩ hd) [.row (gR 24),.row (gR 36),.row (gR 48),.row (gR 54),.c (.lit (.bool true))] (.r (.row (flA [gL [60,66,72,78],[.lit (.bool true)]])))]
     [] [] ((fs181 .nil):Tr.FnsOk Tryz.prog _) 1 1 Tryz.func86 eo86 2000 [.row (flA [gL [0,6,12,18],[.lit (.bool true)]])] (.r (.row (flA [gL [60,66,72,78],[.lit (.bool true)]])))
end Go.Proofs.YtmimficdpfmfgaaGreat
namespace Go.Proofs.YtmimficdpfmfgaaGreat
open Go.RowKit Tr
open Classical
def tv(t:Bool)(a b c d:QC):Q4:=(tw t d,tw t (ng b),tw t (ng c),tw t a)
def N4(t:Bool)(a b c d:QC):Q4:=nm4 (tv t a b c d)
theorem tv_dq{t:Bool}{a b c d:QC}(hd:dq (a,b,c,d)≠⟨0,0⟩):dq (tv t a b c d)≠⟨0,0⟩:=fun e=>hd (by
 have e1:=congrArg QC.re e
 have e2:=congrArg QC.im e
 cases t
 ·simp only[tv,dq,tw,qsr,qsi,qmr,qmi,ng,Bool.false_eq_true,if_false] at e1 e2
  apply Qbz<;>simp only[dq,qsr,qsi,qmr,qmi]<;>grind
 ·simp only[tv,dq,tw,qsr,qsi,qmr,qmi,ng,cj,if_true] at e1 e2
  apply Qbz<;>simp only[dq,qsr,qsi,qmr,qmi]<;>grind)
def Qar(e0 e1 e2 e3:Rat)(n:Q4):Rat:=wr15 e0 e1 e2 e3 n.1 n.2.2.1
def Qai(e0 e1 e2 e3:Rat)(n:Q4):QC:=wr22 e0 e1 e2 e3 n.1 n.2.1 n.2.2.1 n.2.2.2
def Qci(e0 e1 e2 e3:Rat)(n:Q4):Rat:=wr17 e0 e1 e2 e3 n.2.1 n.2.2.2
theorem img_pow(e0 e1 e2 e3:Rat)(n:Q4):(Qai e0 e1 e2 e3 n).re*(Qai e0 e1 e2 e3 n).re+(Qai e0 e1 e2 e3 n).im*(Qai e0 e1 e2 e3 n).im - Qar e0 e1 e2 e3 n*Qci e0 e1 e2 e3 n=(e1*e1+e2*e2 - e0*e3)*nm (dq n):=by
 obtain⟨p,q,r,s⟩:=n
 simp only[Qai,Qar,Qci,wr15,wr17,wr22,wr14,wr16,wr18,wr19,wr20,wr21,nm,dq,cj,qmr,qmi,qar,qai,qsr,qsi]
 grind
theorem by_pow{f0 f1 f2 f3:Rat}(h:f1*f1+f2*f2 - f0*f3≠0):byF f0 f1 f2≠0:=by
 unfold byF
 split
 ·split
  ·grind
  ·assumption
 ·assumption
theorem img_by{t:Bool}{e0 e1 e2 e3:Rat}{n:Q4}(hn:dq n≠⟨0,0⟩)(he:e1*e1+e2*e2 - e0*e3≠0):byF (Qar e0 e1 e2 e3 n) ((tw t (Qai e0 e1 e2 e3 n)).re) ((tw t (Qai e0 e1 e2 e3 n)).im)≠0:=by
 have h:(Qai e0 e1 e2 e3 n).re*(Qai e0 e1 e2 e3 n).re+(Qai e0 e1 e2 e3 n).im*(Qai e0 e1 e2 e3 n).im - Qar e0 e1 e2 e3 n*Qci e0 e1 e2 e3 n≠0:=by
  rw[img_pow]
  exact fun e=>(Rat.mul_eq_zero.1 e).elim he (qc_nz hn)
 apply by_pow (f3:=Qci e0 e1 e2 e3 n)
 cases t
 ·exact h
 ·intro e
  apply h
  have k:(tw true (Qai e0 e1 e2 e3 n)).im=-(Qai e0 e1 e2 e3 n).im:=rfl
  have k2:(tw true (Qai e0 e1 e2 e3 n)).re=(Qai e0 e1 e2 e3 n).re:=rfl
  rw[k,k2] at e
  grind
theorem N4_dq{t:Bool}{a b c d:QC}(hd:dq (a,b,c,d)≠⟨0,0⟩):dq (N4 t a b c d)≠⟨0,0⟩:=nm4_dq (tv_dq hd)
theorem tv_zl{t:Bool}{a b c d:QC}{k:Nat}(ha:ZL a k)(hb:ZL b k)(hc:ZL c k)(hd:ZL d k):ZL4 (tv t a b c d) k:=⟨tw_zl hd,tw_zl (ZL_ng hb),tw_zl (ZL_ng hc),tw_zl ha⟩
theorem image(t:Bool)(a b c d:QC)(ba:Qad a)(bb:Qad b)(bc:Qad c)(bd:Qad d)(hd:dq (a,b,c,d)≠⟨0,0⟩)(e0 e1 e2 e3:Rat)(b0:RL e0 1024)(b1:RL e1 1024)(b2:RL e2 1024)(b3:RL e3 1024)(he:e1*e1+e2*e2 - e0*e3≠0) :
  Qae Tryz.prog true 94 [.row (rG a++rG b++rG c++rG d++[gx (.bool t)]),.row (rG (⟨e0,e1⟩:QC)++rG (⟨e2,e3⟩:QC))] (.r (.row (cirF (Qar e0 e1 e2 e3 (N4 t a b c d)) ((tw t (Qai e0 e1 e2 e3 (N4 t a b c d))).re) ((tw t (Qai e0 e1 e2 e3 (N4 t a b c d))).im) (Qci e0 e1 e2 e3 (N4 t a b c d))))):=by
 have z:=nm4_zl (tv_zl (t:=t) (Qaa ba) (Qaa bb) (Qaa bc) (Qaa bd)) (tv_dq hd)
 have z1:=z.1.mono (l:=9000) (by decide)
 have z2:=z.2.1.mono (l:=9000) (by decide)
 have z3:=z.2.2.1.mono (l:=9000) (by decide)
 have z4:=z.2.2.2.mono (l:=9000) (by decide)
 have hb:=img_by (t:=t) (N4_dq (t:=t) hd) he
 have hv:=tv_dq (t:=t) hd
 cases t
 ·exact dImf a b c d e0 e1 e2 e3 (Qaa ba) (Qaa bb) (Qaa bc) (Qaa bd) b0 b1 b2 b3 _ _ _ _ z1 z2 z3 z4 (rInvf a b c d (Qaa ba) (Qaa bb) (Qaa bc) (Qaa bd) hv) hb
 ·exact dImt a b c d e0 e1 e2 e3 (Qaa ba) (Qaa bb) (Qaa bc) (Qaa bd) b0 b1 b2 b3 _ _ _ _ z1 z2 z3 z4 (rInvt a b c d (Qaa ba) (Qaa bb) (Qaa bc) (Qaa bd) hv) hb
-- the edges
theorem nm_ne{u:QC}(h:u≠⟨0,0⟩):nm u≠0:=qc_nz h
theorem xs(u x y:QC):xU (u*x) (u*y)=nm u*xU x y:=by simp only[xU,nm,qmr,qmi]; grind
theorem zs(u a b c d:QC):zU (u*a) (u*b) (u*c) (u*d)=nm u*zU a b c d:=by simp only[zU,nm,qmr,qmi]; grind
theorem xt(t:Bool)(x y:QC):xU (tw t x) (tw t y)=0↔xU x y=0:=by
 cases t
 ·exact Iff.rfl
 ·have e:xU (tw true x) (tw true y)=-xU x y:=by simp only[xU,tw,cj,if_true]; grind
  rw[e]; grind
theorem zt(t:Bool)(a b c d:QC):zU (tw t a) (tw t b) (tw t c) (tw t d)=0↔zU a b c d=0:=by
 cases t
 ·exact Iff.rfl
 ·have e:zU (tw true a) (tw true b) (tw true c) (tw true d)=-zU a b c d:=by simp only[zU,tw,cj,if_true]; grind
  rw[e]; grind
theorem im_u{t:Bool}{a b c d:QC}(hd:dq (a,b,c,d)≠⟨0,0⟩) :
  (Qar 0 0 1 0 (N4 t a b c d)=0∧(tw t (Qai 0 0 1 0 (N4 t a b c d))).re=0∧Qci 0 0 1 0 (N4 t a b c d)=0)↔(xU d c=0∧xU b a=0∧zU d b c a=0):=by
 have k:=nm4_smul (tv_dq (t:=t) hd)
 have hu:=nm_ne (by4_ne (tv_dq (t:=t) hd))
 have q:nm4 (tv t a b c d)=N4 t a b c d:=rfl
 rw[q] at k
 generalize N4 t a b c d=n at k ⊢
 generalize by4 (tv t a b c d)=u at k hu
 obtain⟨n1,n2,n3,n4⟩:=n
 have k1:tw t d=u*n1:=congrArg (fun x=>x.1) k
 have k2:tw t (ng b)=u*n2:=congrArg (fun x=>x.2.1) k
 have k3:tw t (ng c)=u*n3:=congrArg (fun x=>x.2.2.1) k
 have k4:tw t a=u*n4:=congrArg (fun x=>x.2.2.2) k
 have r1:xU d c=0↔xU n1 n3=0:=by
  have h1:xU d (ng c)=0↔xU d c=0:=by simp only[xU,ng]; grind
  rw[←h1,←xt t,k1,k3,xs]
  grind
 have r2:xU b a=0↔xU n2 n4=0:=by
  have h1:xU (ng b) a=0↔xU b a=0:=by simp only[xU,ng]; grind
  rw[←h1,←xt t,k2,k4,xs]
  grind
 have r3:zU d b c a=0↔zU n1 n2 n3 n4=0:=by
  have h1:zU d (ng b) (ng c) a=0↔zU d b c a=0:=by simp only[zU,ng]; grind
  rw[←h1,←zt t,k1,k2,k3,k4,zs]
  grind
 rw[r1,r2,r3]
 have s0:Qar 0 0 1 0 (n1,n2,n3,n4)=-(2*xU n1 n3):=by simp only[Qar,wr15,wr14,xU,nm,cj,qmr,qmi]; grind
 have s3:Qci 0 0 1 0 (n1,n2,n3,n4)=-(2*xU n2 n4):=by simp only[Qci,wr17,wr16,xU,nm,cj,qmr,qmi]; grind
 have sb:(tw t (Qai 0 0 1 0 (n1,n2,n3,n4))).re=-zU n1 n2 n3 n4:=by
  have e:(tw t (Qai 0 0 1 0 (n1,n2,n3,n4))).re=(Qai 0 0 1 0 (n1,n2,n3,n4)).re:=by cases t<;>rfl
  rw[e]; simp only[Qai,wr22,wr18,wr19,wr20,wr21,zU,cj,qmr,qmi,qar]; grind
 rw[s0,s3,sb]
 constructor
 ·rintro⟨h1,h2,h3⟩; refine⟨?_,?_,?_⟩<;>grind
 ·rintro⟨h1,h2,h3⟩; refine⟨?_,?_,?_⟩<;>grind
theorem cir_u{f0 f1 f2 f3:Rat}(h:byF f0 f1 f2≠0):(f0 / byF f0 f1 f2=0∧f1 / byF f0 f1 f2=0∧f2 / byF f0 f1 f2=1∧f3 / byF f0 f1 f2=0)↔(f0=0∧f1=0∧f3=0):=by
 constructor
 ·rintro⟨h0,h1,h2,h3⟩; refine⟨?_,?_,?_⟩<;>grind
 ·rintro⟨h0,h1,h3⟩
  have e:byF f0 f1 f2=f2:=by unfold byF; rw[if_pos h0,if_pos h1]
  rw[e] at h ⊢
  refine⟨?_,?_,?_,?_⟩<;>grind
theorem ns(u x:QC):nm (u*x)=nm u*nm x:=by simp only[nm,qmr,qmi]; grind
theorem nt(t:Bool)(x:QC):nm (tw t x)=nm x:=by
 cases t
 ·rfl
 ·simp only[nm,tw,cj,if_true]; grind
theorem nng(x:QC):nm (ng x)=nm x:=by simp only[nm,ng]; grind
theorem rs(u a b c d:QC):tRe (u*a) (u*b) (u*c) (u*d)=nm u*tRe a b c d:=by simp only[tRe,nm,qmr,qmi]; grind
theorem is(u a b c d:QC):tIm (u*a) (u*b) (u*c) (u*d)=nm u*tIm a b c d:=by simp only[tIm,nm,qmr,qmi]; grind
theorem rt'(t:Bool)(a b c d:QC):tRe (tw t a) (tw t b) (tw t c) (tw t d)=tRe a b c d:=by
 cases t
 ·rfl
 ·simp only[tRe,tw,cj,if_true]; grind
theorem it'(t:Bool)(a b c d:QC):tIm (tw t a) (tw t b) (tw t c) (tw t d)=0↔tIm a b c d=0:=by
 cases t
 ·exact Iff.rfl
 ·have e:tIm (tw true a) (tw true b) (tw true c) (tw true d)=-tIm a b c d:=by simp only[tIm,tw,cj,if_true]; grind
  rw[e]; grind
theorem im_r{t:Bool}{a b c d:QC}(hd:dq (a,b,c,d)≠⟨0,0⟩) :
  (Qar 1 0 0 (-1) (N4 t a b c d)≠0∧(tw t (Qai 1 0 0 (-1) (N4 t a b c d))).re=0∧(tw t (Qai 1 0 0 (-1) (N4 t a b c d))).im=0∧Qci 1 0 0 (-1) (N4 t a b c d)=-Qar 1 0 0 (-1) (N4 t a b c d)) ↔
   (nm a - nm b≠0∧sD a c b d=0∧tRe a c b d=0∧tIm a c b d=0):=by
 have k:=nm4_smul (tv_dq (t:=t) hd)
 have hu:=nm_ne (by4_ne (tv_dq (t:=t) hd))
 have q:nm4 (tv t a b c d)=N4 t a b c d:=rfl
 rw[q] at k
 generalize N4 t a b c d=n at k ⊢
 generalize by4 (tv t a b c d)=u at k hu
 obtain⟨n1,n2,n3,n4⟩:=n
 have k1:tw t d=u*n1:=congrArg (fun x=>x.1) k
 have k2:tw t (ng b)=u*n2:=congrArg (fun x=>x.2.1) k
 have k3:tw t (ng c)=u*n3:=congrArg (fun x=>x.2.2.1) k
 have k4:tw t a=u*n4:=congrArg (fun x=>x.2.2.2) k
 have m1:nm d=nm u*nm n1:=by rw[←ns,←k1,nt]
 have m2:nm b=nm u*nm n2:=by rw[←ns,←k2,nt,nng]
 have m3:nm c=nm u*nm n3:=by rw[←ns,←k3,nt,nng]
 have m4:nm a=nm u*nm n4:=by rw[←ns,←k4,nt]
 have r1:tRe a c b d=nm u*tRe n1 n2 n3 n4:=by
  have h1:tRe d (ng b) (ng c) a=tRe a c b d:=by simp only[tRe,ng]; grind
  have h2:=rs u n1 n2 n3 n4
  rw[←k1,←k2,←k3,←k4,rt',h1] at h2
  grind
 have r2:tIm a c b d=0↔tIm n1 n2 n3 n4=0:=by
  have h1:tIm d (ng b) (ng c) a=0↔tIm a c b d=0:=by simp only[tIm,ng]; grind
  have h2:=is u n1 n2 n3 n4
  rw[←h1,←it' t,k1,k2,k3,k4,h2]
  grind
 have s0:Qar 1 0 0 (-1) (n1,n2,n3,n4)=nm n1 - nm n3:=by simp only[Qar,wr15,wr14,nm,cj,qmr,qmi]; grind
 have s3:Qci 1 0 0 (-1) (n1,n2,n3,n4)=nm n2 - nm n4:=by simp only[Qci,wr17,wr16,nm,cj,qmr,qmi]; grind
 have sr:(tw t (Qai 1 0 0 (-1) (n1,n2,n3,n4))).re=tRe n1 n2 n3 n4:=by
  have e:(tw t (Qai 1 0 0 (-1) (n1,n2,n3,n4))).re=(Qai 1 0 0 (-1) (n1,n2,n3,n4)).re:=by cases t<;>rfl
  rw[e]; simp only[Qai,wr22,wr18,wr19,wr20,wr21,tRe,cj,qmr,qmi,qar]; grind
 have si:(tw t (Qai 1 0 0 (-1) (n1,n2,n3,n4))).im=0↔tIm n1 n2 n3 n4=0:=by
  have e:(Qai 1 0 0 (-1) (n1,n2,n3,n4)).im=tIm n1 n2 n3 n4:=by simp only[Qai,wr22,wr18,wr19,wr20,wr21,tIm,cj,qmr,qmi,qai]; grind
  cases t
  ·have e2:(tw false (Qai 1 0 0 (-1) (n1,n2,n3,n4))).im=(Qai 1 0 0 (-1) (n1,n2,n3,n4)).im:=rfl
   rw[e2,e]
  ·have e2:(tw true (Qai 1 0 0 (-1) (n1,n2,n3,n4))).im=-(Qai 1 0 0 (-1) (n1,n2,n3,n4)).im:=rfl
   rw[e2,e]; grind
 rw[s0,s3,sr,si,r2,r1]
 unfold sD
 rw[m1,m2,m3,m4]
 constructor
 ·rintro⟨h1,h2,h3,h4⟩; refine⟨?_,?_,?_,h3⟩<;>grind
 ·rintro⟨h1,h2,h3,h4⟩; refine⟨?_,?_,h4,?_⟩<;>grind
theorem cir_r{f0 f1 f2 f3:Rat}(h:byF f0 f1 f2≠0):(f0 / byF f0 f1 f2=1∧f1 / byF f0 f1 f2=0∧f2 / byF f0 f1 f2=0∧f3 / byF f0 f1 f2=-1)↔(f0≠0∧f1=0∧f2=0∧f3=-f0):=by
 constructor
 ·rintro⟨h0,h1,h2,h3⟩; refine⟨?_,?_,?_,?_⟩<;>grind
 ·rintro⟨h0,h1,h2,h3⟩
  have e:byF f0 f1 f2=f0:=by unfold byF; rw[if_neg h0]
  rw[e] at h ⊢
  refine⟨?_,?_,?_,?_⟩<;>grind
def eqU(t:Bool)(a b c d:QC):Prop:=Qar 0 0 1 0 (N4 t a b c d) / byF (Qar 0 0 1 0 (N4 t a b c d)) ((tw t (Qai 0 0 1 0 (N4 t a b c d))).re) ((tw t (Qai 0 0 1 0 (N4 t a b c d))).im)=0∧(tw t (Qai 0 0 1 0 (N4 t a b c d))).re / byF (Qar 0 0 1 0 (N4 t a b c d)) ((tw t (Qai 0 0 1 0 (N4 t a b c d))).re) ((tw t (Qai 0 0 1 0 (N4 t a b c d))).im)=0 ∧
 (tw t (Qai 0 0 1 0 (N4 t a b c d))).im / byF (Qar 0 0 1 0 (N4 t a b c d)) ((tw t (Qai 0 0 1 0 (N4 t a b c d))).re) ((tw t (Qai 0 0 1 0 (N4 t a b c d))).im)=1∧Qci 0 0 1 0 (N4 t a b c d) / byF (Qar 0 0 1 0 (N4 t a b c d)) ((tw t (Qai 0 0 1 0 (N4 t a b c d))).re) ((tw t (Qai 0 0 1 0 (N4 t a b c d))).im)=0
def eqR(t:Bool)(a b c d:QC):Prop:=Qar 1 0 0 (-1) (N4 t a b c d) / byF (Qar 1 0 0 (-1) (N4 t a b c d)) ((tw t (Qai 1 0 0 (-1) (N4 t a b c d))).re) ((tw t (Qai 1 0 0 (-1) (N4 t a b c d))).im)=1∧(tw t (Qai 1 0 0 (-1) (N4 t a b c d))).re / byF (Qar 1 0 0 (-1) (N4 t a b c d)) ((tw t (Qai 1 0 0 (-1) (N4 t a b c d))).re) ((tw t (Qai 1 0 0 (-1) (N4 t a b c d))).im)=0 ∧
 (tw t (Qai 1 0 0 (-1) (N4 t a b c d))).im / byF (Qar 1 0 0 (-1) (N4 t a b c d)) ((tw t (Qai 1 0 0 (-1) (N4 t a b c d))).re) ((tw t (Qai 1 0 0 (-1) (N4 t a b c d))).im)=0∧Qci 1 0 0 (-1) (N4 t a b c d) / byF (Qar 1 0 0 (-1) (N4 t a b c d)) ((tw t (Qai 1 0 0 (-1) (N4 t a b c d))).re) ((tw t (Qai 1 0 0 (-1) (N4 t a b c d))).im)=-1
theorem eqU_iff{t:Bool}{a b c d:QC}(hd:dq (a,b,c,d)≠⟨0,0⟩):eqU t a b c d↔(PE t a b c d ⟨1,0⟩∧PE t a b c d ⟨-1,0⟩∧PE t a b c d ⟨0,0⟩):=by
 unfold eqU
 rw[cir_u (img_by (N4_dq hd) (by grind)),im_u hd,edges,up_iff hd]
theorem eqR_iff{t:Bool}{a b c d:QC}(hd:dq (a,b,c,d)≠⟨0,0⟩):eqR t a b c d↔(PR t a b c d ⟨1,0⟩∧PR t a b c d ⟨-1,0⟩∧PR t a b c d ⟨0,1⟩):=by
 unfold eqR
 rw[cir_r (img_by (N4_dq hd) (by grind)),im_r hd,edgesR hd,rd_iff hd]
end Go.Proofs.YtmimficdpfmfgaaGreat
