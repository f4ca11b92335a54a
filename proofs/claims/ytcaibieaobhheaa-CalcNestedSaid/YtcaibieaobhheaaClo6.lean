/- What the closures of the laws of chapter 6 do. -/
import Derived.Test.YtcaibieaobhheaaVar2
import Derived.Test.YtcaibieaobhheaaVec
namespace Go.Proofs.Ytcaibieaobhheaa
open Go.RowKit M
set_option maxRecDepth 100000
set_option maxHeartbeats 4000000
set_option linter.unusedVariables false
set_option linter.unusedSimpArgs false
end Go.Proofs.Ytcaibieaobhheaa
