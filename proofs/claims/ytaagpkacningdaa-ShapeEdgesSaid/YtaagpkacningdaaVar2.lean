/- Outcomes that are known to be values. -/
import Derived.Test.YtaagpkacningdaaVar
namespace Go.Proofs.Ytaagpkacningdaa
open Go.RowKit M
set_option linter.unusedVariables false
namespace M
theorem ret_I {P : X Int} {en : Ending} {x : Int} (h : P = .ok x) (c : OutI P en) : en = .returned (.int .i64 x) := by
  rcases c with ⟨n, e, _, _⟩ | ⟨v, e, _, r⟩
  · rw [h] at e; cases e
  · rw [h] at e; obtain rfl := Except.ok.inj e; exact r
theorem ret_V {P : X V} {en : Ending} {x y : Int} (h : P = .ok (x, y)) (c : OutV P en) : en = .returned (.agg #[.int .i64 x, .int .i64 y]) := by
  rcases c with ⟨n, e, _, _⟩ | ⟨v, u, e, _, _, r⟩
  · rw [h] at e; cases e
  · rw [h] at e; obtain ⟨rfl, rfl⟩ := Prod.mk.inj (Except.ok.inj e); exact r
theorem ret_VI {P : X (V × Int)} {en : Ending} {x y l : Int} (h : P = .ok ((x, y), l)) (c : OutVI P en) : en = .returned (.tuple #[.agg #[.int .i64 x, .int .i64 y], .int .i64 l]) := by
  rcases c with ⟨n, e, _, _⟩ | ⟨v, u, m, e, _, _, _, r⟩
  · rw [h] at e; cases e
  · rw [h] at e; obtain ⟨e1, rfl⟩ := Prod.mk.inj (Except.ok.inj e); obtain ⟨rfl, rfl⟩ := Prod.mk.inj e1; exact r
theorem ret_Bx {P : X Bx} {en : Ending} {q : Bx} (h : P = .ok q) (c : OutBx P en) : en = .returned (.agg #[.int .i64 q.lx, .int .i64 q.ly, .int .i64 q.hx, .int .i64 q.hy]) := by
  rcases c with ⟨n, e, _, _⟩ | ⟨v, e, _, r⟩
  · rw [h] at e; cases e
  · rw [h] at e; obtain rfl := Except.ok.inj e; exact r
end M
end Go.Proofs.Ytaagpkacningdaa
