/- Outcomes that are known to be values. -/
import Derived.Test.YtcaibieaobhheaaVar
namespace Go.Proofs.Ytcaibieaobhheaa
open Go.RowKit M
set_option linter.unusedVariables false
namespace M
theorem ret_I {P : X Int} {en : Ending} {x : Int} (h : P = .ok x) (c : OutI P en) : en = .returned (.int .i64 x) := by
  rcases c with ⟨n, e, _, _⟩ | ⟨v, e, _, r⟩
  · rw [h] at e; cases e
  · rw [h] at e; obtain rfl := Except.ok.inj e; exact r
theorem ret_V {P : X V} {en : Ending} {x y : Int} (h : P = .ok (x, y)) (c : OutV P en) : en = .returned (.agg #[.int .i64 x, .int .i64 y]) := by
  rcases c with ⟨n, e, _, _⟩ | ⟨v, u, e, _, _, r⟩
  · rw [h] at e; cases e
  · rw [h] at e; obtain ⟨rfl, rfl⟩ := Prod.mk.inj (Except.ok.inj e); exact r
theorem ret_VI {P : X (V × Int)} {en : Ending} {x y l : Int} (h : P = .ok ((x, y), l)) (c : OutVI P en) : en = .returned (.tuple #[.agg #[.int .i64 x, .int .i64 y], .int .i64 l]) := by
  rcases c with ⟨n, e, _, _⟩ | ⟨v, u, m, e, _, _, _, r⟩
  · rw [h] at e; cases e
  · rw [h] at e; obtain ⟨e1, rfl⟩ := Prod.mk.inj (Except.ok.inj e); obtain ⟨rfl, rfl⟩ := Prod.mk.inj e1; exact r
theorem ret_Bx {P : X Bx} {en : Ending} {q : Bx} (h : P = .ok q) (c : OutBx P en) : en = .returned (.agg #[.int .i64 q.lx, .int .i64 q.ly, .int .i64 q.hx, .int .i64 q.hy]) := by
  rcases c with ⟨n, e, _, _⟩ | ⟨v, e, _, r⟩
  · rw [h] at e; cases e
  · rw [h] at e; obtain rfl := Except.ok.inj e; exact r
/-- An outcome whose errors are errors. -/
def NZ {α : Type} (P : X α) : Prop := ∀ n, P = .error n → n ≠ 0
theorem nz_lift (r : Int × Int) : NZ (liftR r) := fun n h => (liftR_err h).2
theorem nz_ok {α : Type} (a : α) : NZ (.ok a : X α) := fun n h => by cases h
theorem nz_then {α β : Type} {P : X α} {Q : α → X β} (h : NZ P) (k : ∀ a, NZ (Q a)) : NZ (andThen P Q) := by
  intro n e
  cases P with
  | ok a => exact k a n e
  | error m =>
    have e' : (Except.error m : X β) = .error n := e
    obtain rfl := Except.error.inj e'
    exact h m rfl
theorem nz_dot (a b : V) : NZ (dotX a b) := nz_then (nz_lift _) fun _ => nz_then (nz_lift _) fun _ => nz_lift _
theorem nz_over (a : V) (k : Int) : NZ (overV a k) := nz_then (nz_lift _) fun _ => nz_then (nz_lift _) fun _ => nz_ok _
theorem pcell_var {w : World} {pb : Nat} {e : Int} (h : Var w pb #[.int .i64 e]) : PCell w pb e := ⟨h.lt, h.c 0 _ rfl, h.2.2 0⟩
theorem relV_ok {pb : Nat} {P : X V} {x y : Int} (hP : P = .ok (x, y)) {w : World} {en : Ending} {w' : World} (h : RelV pb 0 P w en w') : en = .returned (.agg #[.int .i64 x, .int .i64 y]) ∧ RW pb 0 w w' := by
  obtain ⟨u, v, e', rfl, _, _, hr, hb⟩ := h
  subst hP
  rcases hr with ⟨h0, _⟩ | ⟨_, rfl, h1⟩ | ⟨_, _, h1⟩
  · exact absurd rfl h0
  · obtain ⟨rfl, rfl⟩ := Prod.mk.inj (Except.ok.inj h1); exact ⟨rfl, hb⟩
  · cases h1
theorem relV_err {pb : Nat} {P : X V} {n : Int} (hP : P = .error n) {w : World} {en : Ending} {w' : World} (h : RelV pb 0 P w en w') : (∃ u v, en = .returned (.agg #[.int .i64 u, .int .i64 v])) ∧ RW pb n w w' := by
  obtain ⟨u, v, e', rfl, _, _, hr, hb⟩ := h
  subst hP
  rcases hr with ⟨h0, _⟩ | ⟨_, _, h1⟩ | ⟨_, _, h1⟩
  · exact absurd rfl h0
  · cases h1
  · obtain rfl := Except.error.inj h1; exact ⟨⟨u, v, rfl⟩, hb⟩
theorem relI_ok {pb : Nat} {P : X Int} {x : Int} (hP : P = .ok x) {w : World} {en : Ending} {w' : World} (h : RelI pb 0 P w en w') : en = .returned (.int .i64 x) ∧ RW pb 0 w w' := by
  obtain ⟨u, e', rfl, _, hr, hb⟩ := h
  subst hP
  rcases hr with ⟨h0, _⟩ | ⟨_, rfl, h1⟩ | ⟨_, _, h1⟩
  · exact absurd rfl h0
  · obtain rfl := Except.ok.inj h1; exact ⟨rfl, hb⟩
  · cases h1
theorem relI_err {pb : Nat} {P : X Int} {n : Int} (hP : P = .error n) {w : World} {en : Ending} {w' : World} (h : RelI pb 0 P w en w') : (∃ u, en = .returned (.int .i64 u)) ∧ RW pb n w w' := by
  obtain ⟨u, e', rfl, _, hr, hb⟩ := h
  subst hP
  rcases hr with ⟨h0, _⟩ | ⟨_, _, h1⟩ | ⟨_, _, h1⟩
  · exact absurd rfl h0
  · cases h1
  · obtain rfl := Except.error.inj h1; exact ⟨⟨u, rfl⟩, hb⟩
theorem relBx_ok {pb : Nat} {P : X Bx} {q : Bx} (hP : P = .ok q) {w : World} {en : Ending} {w' : World} (h : RelBx pb 0 P w en w') : en = .returned (.agg #[.int .i64 q.lx, .int .i64 q.ly, .int .i64 q.hx, .int .i64 q.hy]) ∧ RW pb 0 w w' := by
  obtain ⟨u, e', rfl, _, hr, hb⟩ := h
  subst hP
  rcases hr with ⟨h0, _⟩ | ⟨_, rfl, h1⟩ | ⟨_, _, h1⟩
  · exact absurd rfl h0
  · obtain rfl := Except.ok.inj h1; exact ⟨rfl, hb⟩
  · cases h1
theorem relBx_err {pb : Nat} {P : X Bx} {n : Int} (hP : P = .error n) {w : World} {en : Ending} {w' : World} (h : RelBx pb 0 P w en w') : (∃ u : Bx, en = .returned (.agg #[.int .i64 u.lx, .int .i64 u.ly, .int .i64 u.hx, .int .i64 u.hy])) ∧ RW pb n w w' := by
  obtain ⟨u, e', rfl, _, hr, hb⟩ := h
  subst hP
  rcases hr with ⟨h0, _⟩ | ⟨_, _, h1⟩ | ⟨_, _, h1⟩
  · exact absurd rfl h0
  · cases h1
  · obtain rfl := Except.error.inj h1; exact ⟨⟨u, rfl⟩, hb⟩
theorem nz_box (b : Bd) : NZ (boxX b) := nz_then (nz_then (nz_lift _) fun _ => nz_then (nz_lift _) fun _ => nz_ok _) fun _ => nz_then (nz_then (nz_lift _) fun _ => nz_then (nz_lift _) fun _ => nz_ok _) fun _ => nz_ok _
theorem nz_speed (b : Bd) : NZ (speedX b) := by
  unfold speedX; split
  · exact nz_ok _
  · exact nz_over _ _
theorem nz_light (b : Bd) : NZ (lightX b) := by
  unfold lightX; split
  · exact nz_ok _
  · exact nz_lift _
theorem err_I {P : X Int} {en : Ending} {n : Int} (h : P = .error n) (c : OutI P en) : n ≠ 0 ∧ en = panics n := by
  rcases c with ⟨m, e, k, r⟩ | ⟨v, e, _, r⟩
  · rw [h] at e; obtain rfl := Except.error.inj e; exact ⟨k, r⟩
  · rw [h] at e; cases e
theorem err_V {P : X V} {en : Ending} {n : Int} (h : P = .error n) (c : OutV P en) : n ≠ 0 ∧ en = panics n := by
  rcases c with ⟨m, e, k, r⟩ | ⟨v, u, e, _, _, r⟩
  · rw [h] at e; obtain rfl := Except.error.inj e; exact ⟨k, r⟩
  · rw [h] at e; cases e
theorem err_VI {P : X (V × Int)} {en : Ending} {n : Int} (h : P = .error n) (c : OutVI P en) : n ≠ 0 ∧ en = panics n := by
  rcases c with ⟨m, e, k, r⟩ | ⟨v, u, l, e, _, _, _, r⟩
  · rw [h] at e; obtain rfl := Except.error.inj e; exact ⟨k, r⟩
  · rw [h] at e; cases e
theorem err_Bx {P : X Bx} {en : Ending} {n : Int} (h : P = .error n) (c : OutBx P en) : n ≠ 0 ∧ en = panics n := by
  rcases c with ⟨m, e, k, r⟩ | ⟨v, e, _, r⟩
  · rw [h] at e; obtain rfl := Except.error.inj e; exact ⟨k, r⟩
  · rw [h] at e; cases e
end M
end Go.Proofs.Ytcaibieaobhheaa
