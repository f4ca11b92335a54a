/- The contact of two crates, as the reference reckons it. -/
import Derived.Test.YtcaibieaobhheaaRefTouch
import Derived.Test.YtcaibieaobhheaaVar3
import Derived.Test.YtcaibieaobhheaaTouchMath
import Derived.Deep.Cut
namespace Go.Proofs.Ytcaibieaobhheaa
open Go.RowKit M
set_option maxRecDepth 100000
set_option maxHeartbeats 4000000
set_option linter.unusedVariables false
set_option linter.unusedSimpArgs false
attribute [local go_sem ↓] Go.wp_at_zero Go.wp_at_succ
theorem crates_tail {x y dx dy : Int} (hx : ¬ x ≤ 0) (P : X (Ht × Bool)) (hP : P = if x ≤ y then .ok (hitR (oneI dx, 0) x) else .ok (hitR (0, oneI dy) y)) :
    (y ≤ 0 → P = .ok (⟨0, 0, 0⟩, false)) ∧ (¬ y ≤ 0 → x ≤ y → P = .ok (⟨oneI dx, 0, x⟩, true)) ∧ (¬ y ≤ 0 → ¬ x ≤ y → P = .ok (⟨0, oneI dy, y⟩, true)) := by
  subst hP
  refine ⟨fun h => ?_, fun h k => ?_, fun h k => ?_⟩
  · rw [if_neg (by omega)]; unfold hitR; rw [if_pos h]
  · rw [if_pos k]; unfold hitR; rw [if_neg hx]
  · rw [if_neg k]; unfold hitR; rw [if_neg h]
end Go.Proofs.Ytcaibieaobhheaa
