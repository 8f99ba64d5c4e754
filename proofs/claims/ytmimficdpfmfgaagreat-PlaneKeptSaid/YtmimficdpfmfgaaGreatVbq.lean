/- Laws for the walk. -/
import Derived.Test.YtmimficdpfmfgaaGreatVbn
set_option linter.unusedVariables false
set_option linter.unusedSimpArgs false
set_option maxHeartbeats 4000000
set_option maxRecDepth 100000
namespace Go.Proofs.YtmimficdpfmfgaaGreat
open Go.RowKit Tr
open Classical
theorem kRound  :SCt 68 [.row ((Qad (⟨0,0⟩:QC)).cells),.row (rF (4:Rat))] (.tup [.row ((Qad (⟨1,0⟩:QC)).cells++(Qad (⟨0,-4⟩:QC)).cells),gIi 0]) :=
  have t1:=Qfp (⟨0,0⟩:QC) ((Qec (⟨0,0⟩:QC) 1 (by decide +kernel)).mn)
  have t2:=rfOver (0:Rat) (1:Rat) (rk 0) (rk 1) (Qbn (by decide +kernel))
  Qba (L := [cG (⟨0,0⟩ : QC),cF (4 : Rat),cF (1 : Rat),cG (⟨0,0⟩ : QC),cG (⟨0,0⟩ : QC),cF (0 : Rat),cF (-4 : Rat),cF (0 : Rat),cF (-4 : Rat),cF (4 : Rat),[gxi ((4 : Rat).num.sign)],[gxi ((1 : Rat).num.sign)],cF (1 : Rat),cF (0 : Rat),cF (0 : Rat),cF (-4 : Rat)].flatten) Qae Qai
     [Qgt eo78,gs (Qgs 1 (by decide) (by decide)) [lc 1] (rQ 9),gs (rConj (⟨0,0⟩:QC)) [.row (gR 0)] (.r (.row (gR 12))),gs (rGNeg (⟨0,0⟩:QC)) [.row (gR 12)] (.r (.row (gR 18))),gs (t1) [.row (gR 0)] (rQ 24),gs (Qbs (0:Rat) (4:Rat) (rk 0) (rk 4)) [yQ 24,yQ 6] (rQ 27),gs (t1) [.row (gR 18)] (rQ 30),gs (Qbt (1:Rat) (-4:Rat) (rk 1) (rk (-4))) [yQ 9,yQ 27] (rQ 33),gs (Qbs (0:Rat) (-4:Rat) (rk 0) (rk (-4))) [yQ 30,yQ 33] (rQ 36),gs (Qbo (4:Rat)) [yQ 36] (rS 39),gs (Qbo (1:Rat)) [yQ 9] (rS 40),gs (rfOver (1:Rat) (1:Rat) (rk 1) (rk 1) (Qbn (by decide +kernel))) [yQ 9,yQ 9] (rQ 41),gs (t2) [yQ 18,yQ 9] (rQ 44),gs (t2) [yQ 21,yQ 9] (rQ 47),gs (rfOver (-4:Rat) (1:Rat) (rk (-4)) (rk 1) (Qbn (by decide +kernel))) [yQ 27,yQ 9] (rQ 50)]
     [bI .leq 3 (.sym 39) (li 0) ((4:Rat).num.sign) 0 false (by simp only[Qed]; exact congrArg some (decide_eq_false (by decide +kernel))),bI .eql 3 (.sym 40) (li 0) ((1:Rat).num.sign) 0 false (by decide +kernel)] [] ((fs47 (fs95 (fs117 (fs138 (fs113 (fs115 (fs116 (fs112 (fs197 (fs208 (fs109 (fs194 (fs163 (fs108 (fs18 (fs66 (fs53 (fs146 (fs77 (fs147 (fs67 (fs93 .nil)))))))))))))))))))))):FnsOk Tryz.prog _) 1 5 Tryz.func68 eo68 2000 [.row (gR 0),yQ 6] (.tup [.row (gL [41,47]),lc 0])
end Go.Proofs.YtmimficdpfmfgaaGreat
