/- Laws for the walk. -/
import Derived.Test.YtmimficdpfmfgaaGreatUbp
set_option linter.unusedVariables false
set_option linter.unusedSimpArgs false
set_option maxHeartbeats 4000000
set_option maxRecDepth 100000
namespace Go.Proofs.YtmimficdpfmfgaaGreat
open Go.RowKit Tr
open Classical
theorem kRound  :SCt 68 [.row ((Qae (⟨0,0⟩:QC)).cells),.row (rF (4:Rat))] (.tup [.row ((Qae (⟨1,0⟩:QC)).cells++(Qae (⟨0,-4⟩:QC)).cells),gIi 0]) :=
  have t1:=Qds (⟨0,0⟩:QC) ((Qee (⟨0,0⟩:QC) 1 (by decide +kernel)).mn)
  have t2:=Qdd (0:Rat) (1:Rat) (rk 0) (rk 1) (Qbh (by decide +kernel))
  Qai (L := [cG (⟨0,0⟩ : QC),cF (4 : Rat),cF (1 : Rat),cG (⟨0,0⟩ : QC),cG (⟨0,0⟩ : QC),cF (0 : Rat),cF (-4 : Rat),cF (0 : Rat),cF (-4 : Rat),cF (4 : Rat),[gxi ((4 : Rat).num.sign)],[gxi ((1 : Rat).num.sign)],cF (1 : Rat),cF (0 : Rat),cF (0 : Rat),cF (-4 : Rat)].flatten) Qad Qag
     [Qfv eo78,gs (Qea 1 (by decide) (by decide)) [lc 1] (rQ 9),gs (rConj (⟨0,0⟩:QC)) [.row (gR 0)] (.r (.row (gR 12))),gs (rGNeg (⟨0,0⟩:QC)) [.row (gR 12)] (.r (.row (gR 18))),gs (t1) [.row (gR 0)] (rQ 24),gs (Qbk (0:Rat) (4:Rat) (rk 0) (rk 4)) [yQ 24,yQ 6] (rQ 27),gs (t1) [.row (gR 18)] (rQ 30),gs (Qau (1:Rat) (-4:Rat) (rk 1) (rk (-4))) [yQ 9,yQ 27] (rQ 33),gs (Qbk (0:Rat) (-4:Rat) (rk 0) (rk (-4))) [yQ 30,yQ 33] (rQ 36),gs (Qbu (4:Rat)) [yQ 36] (rS 39),gs (Qbu (1:Rat)) [yQ 9] (rS 40),gs (Qdd (1:Rat) (1:Rat) (rk 1) (rk 1) (Qbh (by decide +kernel))) [yQ 9,yQ 9] (rQ 41),gs (t2) [yQ 18,yQ 9] (rQ 44),gs (t2) [yQ 21,yQ 9] (rQ 47),gs (Qdd (-4:Rat) (1:Rat) (rk (-4)) (rk 1) (Qbh (by decide +kernel))) [yQ 27,yQ 9] (rQ 50)]
     [bI .leq 3 (.sym 39) (li 0) ((4:Rat).num.sign) 0 false (by simp only[Qdn]; exact congrArg some (decide_eq_false (by decide +kernel))),bI .eql 3 (.sym 40) (li 0) ((1:Rat).num.sign) 0 false (by decide +kernel)] [] ((fs47 (fs95 (fs117 (fs138 (fs113 (fs115 (fs116 (fs112 (fs197 (fs208 (fs109 (fs194 (fs163 (fs108 (fs18 (fs66 (fs53 (fs146 (fs77 (fs147 (fs67 (fs93 .nil)))))))))))))))))))))):FnsOk Tryz.prog _) 1 5 Tryz.func68 eo68 2000 [.row (gR 0),yQ 6] (.tup [.row (gL [41,47]),lc 0])
end Go.Proofs.YtmimficdpfmfgaaGreat
