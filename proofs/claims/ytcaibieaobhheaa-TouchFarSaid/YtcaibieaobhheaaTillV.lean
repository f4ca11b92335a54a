/- A world later by one draw. -/
import Derived.Test.YtcaibieaobhheaaVar3
import Derived.Test.YtcaibieaobhheaaTill
namespace Go.Proofs.Ytcaibieaobhheaa
open Go.RowKit M
theorem M.Below.drew {B : Nat} {w w' : World} (h : Below B w w') : Below B w w'.drew := M.Below.drewN h 1
end Go.Proofs.Ytcaibieaobhheaa
