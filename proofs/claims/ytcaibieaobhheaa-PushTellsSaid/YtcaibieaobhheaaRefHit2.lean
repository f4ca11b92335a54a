/- The contact of two bodies, as the reference reckons it. -/
import Derived.Test.YtcaibieaobhheaaRefHit1
namespace Go.Proofs.Ytcaibieaobhheaa
open Go.RowKit M
set_option maxRecDepth 100000
set_option maxHeartbeats 4000000
set_option linter.unusedVariables false
set_option linter.unusedSimpArgs false
attribute [local go_sem ↓] Go.wp_at_zero Go.wp_at_succ
namespace M
theorem rel_zero {α : Type} {e e' : Int} {P : X α} {v : α} (h : Rel e P v e') (h0 : e' = 0) : e = 0 ∧ P = .ok v := by
  rcases h with ⟨h, rfl⟩ | ⟨h, _, hp⟩ | ⟨_, h, _⟩
  · exact absurd h0 h
  · exact ⟨h, hp⟩
  · exact absurd h0 h
theorem unit_zero {d u : V} (h : unitX d = .ok (u, 0)) : u = (0, 0) := by
  obtain ⟨n, _, h⟩ := andThen_ok_iff.1 h
  by_cases h0 : n = 0
  · rw [if_pos h0] at h; exact (Prod.mk.inj (Except.ok.inj h)).1.symm
  · rw [if_neg h0] at h
    obtain ⟨v, _, h⟩ := andThen_ok_iff.1 h
    exact absurd (Prod.mk.inj (Except.ok.inj h)).2 h0
theorem hitR_no {n : V} {d : Int} (h : d ≤ 0) : hitR n d = (⟨0, 0, 0⟩, false) := by unfold hitR; rw [if_pos h]
theorem hitR_yes {n : V} {d : Int} (h : ¬ d ≤ 0) : hitR n d = (⟨n.1, n.2, d⟩, true) := by unfold hitR; rw [if_neg h]
theorem crates_false {a b : Bd} {h : Ht} (k : cratesX a b = .ok (h, false)) : h = ⟨0, 0, 0⟩ := by
  have hr : ∀ n d, hitR n d = (h, false) → h = ⟨0, 0, 0⟩ := by
    intro n d k; unfold hitR at k; split at k
    · exact (Prod.mk.inj k).1.symm
    · have := (Prod.mk.inj k).2; simp at this
  obtain ⟨d, _, k⟩ := andThen_ok_iff.1 k
  obtain ⟨x, _, k⟩ := andThen_ok_iff.1 k
  split at k
  · exact (Prod.mk.inj (Except.ok.inj k)).1.symm
  · obtain ⟨y, _, k⟩ := andThen_ok_iff.1 k
    split at k
    · exact hr _ _ (Except.ok.inj k)
    · exact hr _ _ (Except.ok.inj k)
theorem both_false {a b : Bd} {h : Ht} (k : bothX a b = .ok (h, false)) : h = ⟨0, 0, 0⟩ := by
  obtain ⟨e, _, k⟩ := andThen_ok_iff.1 k
  obtain ⟨d, _, k⟩ := andThen_ok_iff.1 k
  obtain ⟨u, _, k⟩ := andThen_ok_iff.1 k
  split at k
  · exact crates_false k
  · obtain ⟨x, _, k⟩ := andThen_ok_iff.1 k
    have k := Except.ok.inj k
    unfold hitR at k; split at k
    · exact (Prod.mk.inj k).1.symm
    · have := (Prod.mk.inj k).2; simp at this
end M
end Go.Proofs.Ytcaibieaobhheaa
