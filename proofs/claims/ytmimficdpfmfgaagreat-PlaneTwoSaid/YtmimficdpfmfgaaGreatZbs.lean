/- Laws for the walk. -/
import Derived.Test.YtmimficdpfmfgaaGreatZbp
set_option linter.unusedVariables false
set_option maxHeartbeats 4000000
namespace Go.Proofs.YtmimficdpfmfgaaGreat
open Go.RowKit Tr
open Classical
theorem kRound  :Qah Tryz.prog true 68 [.row ((Qae (⟨0,0⟩:QC)).cells),.row (rF (4:Rat))] (.tup [.row ((Qae (⟨1,0⟩:QC)).cells++(Qae (⟨0,-4⟩:QC)).cells),.c (gl (.int .i64 0))]) :=
  have t1:=Qcp (⟨0,0⟩:QC) ((Qbz (⟨0,0⟩:QC) 1 (by decide +kernel)).mn)
  have t2:=Qcg (0:Rat) (1:Rat) (rk 0) (rk 1) (Qaq (by decide +kernel))
  Qas (L := [cG (⟨0,0⟩ : QC),cF (4 : Rat),cF (1 : Rat),cG (⟨0,0⟩ : QC),cG (⟨0,0⟩ : QC),cF (0 : Rat),cF (-4 : Rat),cF (0 : Rat),cF (-4 : Rat),cF (4 : Rat),[gx (.int .i64 ((4 : Rat).num.sign))],[gx (.int .i64 ((1 : Rat).num.sign))],cF (1 : Rat),cF (0 : Rat),cF (0 : Rat),cF (-4 : Rat)].flatten) tys_ok mixed
     [trimE eo78,gs (Qcl 1 (by decide) (by decide)) [lc 1] (rQ 9),gs (rConj (⟨0,0⟩:QC)) [.row (gR 0)] (.r (.row (gR 12))),gs (rGNeg (⟨0,0⟩:QC)) [.row (gR 12)] (.r (.row (gR 18))),gs (t1) [.row (gR 0)] (rQ 24),gs (Qaw (0:Rat) (4:Rat) (rk 0) (rk 4)) [.row (qS 24),.row (qS 6)] (rQ 27),gs (t1) [.row (gR 18)] (rQ 30),gs (Qai (1:Rat) (-4:Rat) (rk 1) (rk (-4))) [.row (qS 9),.row (qS 27)] (rQ 33),gs (Qaw (0:Rat) (-4:Rat) (rk 0) (rk (-4))) [.row (qS 30),.row (qS 33)] (rQ 36),gs (Qbh (4:Rat)) [.row (qS 36)] (rS 39),gs (Qbh (1:Rat)) [.row (qS 9)] (rS 40),gs (Qcg (1:Rat) (1:Rat) (rk 1) (rk 1) (Qaq (by decide +kernel))) [.row (qS 9),.row (qS 9)] (rQ 41),gs (t2) [.row (qS 18),.row (qS 9)] (rQ 44),gs (t2) [.row (qS 21),.row (qS 9)] (rQ 47),gs (Qcg (-4:Rat) (1:Rat) (rk (-4)) (rk 1) (Qaq (by decide +kernel))) [.row (qS 27),.row (qS 9)] (rQ 50)]
     [bI .leq 3 (.sym 39) (li 0) ((4:Rat).num.sign) 0 false (by simp only[cmpB]; exact congrArg some (decide_eq_false (by decide +kernel))),bI .eql 3 (.sym 40) (li 0) ((1:Rat).num.sign) 0 false (by decide +kernel)] [] ((fs47 (fs95 (fs117 (Qcn (fs113 (fs115 (fs116 (fs112 (fs197 (fs208 (fs109 (fs194 (fs163 (fs108 (fs18 (fs66 (fs53 (fs146 (fs77 (fs147 (fs67 (fs93 .nil)))))))))))))))))))))):FnsOk Tryz.prog _) 1 5 Tryz.func68 eo68 2000 [.row (gR 0),.row (qS 6)] (.tup [.row (gL [41,47]),lc 0])
end Go.Proofs.YtmimficdpfmfgaaGreat
