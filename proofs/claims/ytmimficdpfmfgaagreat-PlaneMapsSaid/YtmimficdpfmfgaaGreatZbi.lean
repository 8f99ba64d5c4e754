/- Laws for the walk. -/
import Derived.Test.YtmimficdpfmfgaaGreatZbd
import Derived.Test.YtmimficdpfmfgaaGreatZbg
set_option linter.unusedVariables false
set_option maxHeartbeats 4000000
set_option linter.unusedSimpArgs false
namespace Go.Proofs.YtmimficdpfmfgaaGreat
open Go.RowKit Tr
open Classical
end Go.Proofs.YtmimficdpfmfgaaGreat
