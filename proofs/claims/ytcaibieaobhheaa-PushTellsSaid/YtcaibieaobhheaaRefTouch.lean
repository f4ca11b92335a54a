/- The reference's contacts: Flip. -/
import Derived.Test.YtcaibieaobhheaaRefBounds
import Derived.Test.YtcaibieaobhheaaRefRight
namespace Go.Proofs.Ytcaibieaobhheaa
open Go.RowKit M
set_option maxRecDepth 100000
set_option maxHeartbeats 4000000
set_option linter.unusedVariables false
set_option linter.unusedSimpArgs false
attribute [local go_sem ↓] Go.wp_at_zero Go.wp_at_succ
end Go.Proofs.Ytcaibieaobhheaa
