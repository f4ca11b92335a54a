/- How deep a contact is, is a number that there is. -/
import Derived.Test.YtcaibieaobhheaaTouchMath
namespace Go.Proofs.Ytcaibieaobhheaa
open Go.RowKit M
set_option linter.unusedVariables false
namespace M
theorem hitR_i64 (n : V) {d : Int} (h : I64 d) : I64 (hitR n d).1.d := by
  unfold hitR; split
  · unfold I64; dsimp only; omega
  · exact h
theorem overlapX_i64 {a b d x : Int} (h : overlapX a b d = .ok x) : I64 x := by
  obtain ⟨s, _, h⟩ := andThen_ok_iff.1 h
  obtain ⟨t, _, h⟩ := andThen_ok_iff.1 h
  exact (subX_ok h).2
theorem crates_i64 {a b : Bd} {r : Ht × Bool} (h : cratesX a b = .ok r) : I64 r.1.d := by
  obtain ⟨d, _, h⟩ := andThen_ok_iff.1 h
  obtain ⟨x, hx, h⟩ := andThen_ok_iff.1 h
  split at h
  · obtain rfl := Except.ok.inj h; unfold I64; dsimp only; omega
  · obtain ⟨y, hy, h⟩ := andThen_ok_iff.1 h
    split at h
    · obtain rfl := Except.ok.inj h; exact hitR_i64 _ (overlapX_i64 hx)
    · obtain rfl := Except.ok.inj h; exact hitR_i64 _ (overlapX_i64 hy)
theorem both_i64 {a b : Bd} {r : Ht × Bool} (h : bothX a b = .ok r) : I64 r.1.d := by
  obtain ⟨e, _, h⟩ := andThen_ok_iff.1 h
  obtain ⟨d, _, h⟩ := andThen_ok_iff.1 h
  obtain ⟨u, _, h⟩ := andThen_ok_iff.1 h
  split at h
  · exact crates_i64 h
  · obtain ⟨k, hk, h⟩ := andThen_ok_iff.1 h
    obtain rfl := Except.ok.inj h; exact hitR_i64 _ (subX_ok hk).2
theorem hitX_d {a b : Bd} {q : Ht} {t : Bool} (h : hitX a b = .ok (q, t)) : I64 q.d := by
  have k : I64 (q, t).1.d := by
    unfold hitX at h
    split at h
    · obtain ⟨d, _, h⟩ := andThen_ok_iff.1 h
      obtain ⟨u, _, h⟩ := andThen_ok_iff.1 h
      obtain ⟨s, _, h⟩ := andThen_ok_iff.1 h
      obtain ⟨k, hk, h⟩ := andThen_ok_iff.1 h
      rw [← Except.ok.inj h]; exact hitR_i64 _ (subX_ok hk).2
    · split at h
      · exact crates_i64 h
      · split at h
        · exact both_i64 h
        · split at h
          · obtain ⟨r, hr, h⟩ := andThen_ok_iff.1 h
            obtain ⟨f, hf, h⟩ := andThen_ok_iff.1 h
            obtain ⟨n, _, hf⟩ := andThen_ok_iff.1 hf
            rw [← Except.ok.inj h]
            obtain rfl := Except.ok.inj hf
            have := both_i64 hr
            exact this
          · rw [← Except.ok.inj h]; unfold I64; dsimp only; omega
  exact k
end M
end Go.Proofs.Ytcaibieaobhheaa
