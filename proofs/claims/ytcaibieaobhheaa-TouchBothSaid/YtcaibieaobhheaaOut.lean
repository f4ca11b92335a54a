/- What a call that may throw a Fault ends in; calc's functions said so; what stays of memory behind a call. -/
import Derived.Test.YtcaibieaobhheaaCalc
import Derived.Test.YtcaibieaobhheaaRef
import Derived.Test.YtcaibieaobhheaaPlain
import Derived.Below
namespace Go.Proofs.Ytcaibieaobhheaa
open Go.RowKit M
set_option maxRecDepth 100000
set_option maxHeartbeats 2000000
set_option linter.unusedVariables false
namespace M
def OutI (P : X Int) (en : Ending) : Prop := (∃ n, P = .error n ∧ n ≠ 0 ∧ en = panics n) ∨ ∃ x, P = .ok x ∧ I64 x ∧ en = .returned (.int .i64 x)
def OutV (P : X V) (en : Ending) : Prop := (∃ n, P = .error n ∧ n ≠ 0 ∧ en = panics n) ∨ ∃ x y, P = .ok (x, y) ∧ I64 x ∧ I64 y ∧ en = .returned (.agg #[.int .i64 x, .int .i64 y])
def OutVI (P : X (V × Int)) (en : Ending) : Prop := (∃ n, P = .error n ∧ n ≠ 0 ∧ en = panics n) ∨ ∃ x y l, P = .ok ((x, y), l) ∧ I64 x ∧ I64 y ∧ I64 l ∧ en = .returned (.tuple #[.agg #[.int .i64 x, .int .i64 y], .int .i64 l])
structure Bx.ok (q : Bx) : Prop where
  lx : I64 q.lx
  ly : I64 q.ly
  hx : I64 q.hx
  hy : I64 q.hy
structure Ht.ok (h : Ht) : Prop where
  nx : I64 h.nx
  ny : I64 h.ny
  d : I64 h.d
def OutBx (P : X Bx) (en : Ending) : Prop := (∃ n, P = .error n ∧ n ≠ 0 ∧ en = panics n) ∨ ∃ q, P = .ok q ∧ q.ok ∧ en = .returned (.agg #[.int .i64 q.lx, .int .i64 q.ly, .int .i64 q.hx, .int .i64 q.hy])
def OutHt (P : X Ht) (en : Ending) : Prop := (∃ n, P = .error n ∧ n ≠ 0 ∧ en = panics n) ∨ ∃ q, P = .ok q ∧ q.ok ∧ en = .returned (.agg #[.int .i64 q.nx, .int .i64 q.ny, .int .i64 q.d])
def OutHb (P : X (Ht × Bool)) (en : Ending) : Prop := (∃ n, P = .error n ∧ n ≠ 0 ∧ en = panics n) ∨ ∃ q t, P = .ok (q, t) ∧ q.ok ∧ en = .returned (.tuple #[.agg #[.int .i64 q.nx, .int .i64 q.ny, .int .i64 q.d], .bool t])
def OutBB (P : X (Bd × Bd)) (en : Ending) : Prop := (∃ n, P = .error n ∧ n ≠ 0 ∧ en = panics n) ∨ ∃ u v, P = .ok (u, v) ∧ u.ok ∧ v.ok ∧ en = .returned (.tuple #[.agg #[.int .i64 u.shape, .int .i64 u.sx, .int .i64 u.sy, .int .i64 u.mass, .int .i64 u.px, .int .i64 u.py, .int .i64 u.mx, .int .i64 u.my], .agg #[.int .i64 v.shape, .int .i64 v.sx, .int .i64 v.sy, .int .i64 v.mass, .int .i64 v.px, .int .i64 v.py, .int .i64 v.mx, .int .i64 v.my]])
theorem outI_out {r : Int × Int} {en : Ending} (h : en = outI r) (hb : I64 r.1) : OutI (liftR r) en := by
  obtain ⟨a, e⟩ := r
  subst h
  by_cases he : e = 0
  · subst he; exact .inr ⟨a, rfl, hb, rfl⟩
  · exact .inl ⟨e, by unfold liftR; dsimp only; rw [if_neg he], he, outI_no he⟩
theorem Below.drewN {B : Nat} {a w : World} (h : Below B a w) (n : Nat) : Below B a (w.drewN n) := ⟨h.os, h.tape, h.output, h.size, h.block⟩
/-- The program only made blocks of its own, and drew. -/
abbrev Bw (w w' : World) : Prop := Below w.heap.size w w'
theorem Dr.bw {w w' : World} (h : Dr w w') : Bw w w' := by
  obtain ⟨n, rfl⟩ := h; exact ⟨rfl, rfl, rfl, Nat.le_refl _, fun _ _ => rfl⟩
theorem bcell {W w1 : World} (hb : Below W.heap.size W w1) : (∀ b o, b < W.heap.size → w1.cell? ⟨b, o, none⟩ = W.cell? ⟨b, o, none⟩) ∧ (∀ b o, b < W.heap.size → w1.frozen? ⟨b, o, none⟩ = W.frozen? ⟨b, o, none⟩) :=
  ⟨fun b o h => hb.cell (p := ⟨b, o, none⟩) h, fun b o h => hb.frozen (p := ⟨b, o, none⟩) h⟩
/-- The cells of a block. -/
def Box (w : World) (b : Nat) (cs : Array Value) : Prop := b < w.heap.size ∧ ∀ o, w.cell? ⟨b, o, none⟩ = cs[o]?
theorem Box.mono {w w' : World} {b : Nat} {cs : Array Value} (h : Box w b cs) (k : Below w.heap.size w w') : Box w' b cs :=
  ⟨Nat.lt_of_lt_of_le h.1 k.size, fun o => (k.cell (p := ⟨b, o, none⟩) h.1).trans (h.2 o)⟩
end M
theorem calcAdd_x (a b : Int) (ha : I64 a) (hb : I64 b) (w : World) : Calls Try.prog 71 #[.int .i64 a, .int .i64 b] w fun en w' => OutI (addX a b) en ∧ Dr w w' :=
  (calcAdd_c a b ha hb w).mono fun e w' h => ⟨outI_out h.1 (addR_i64 a b), h.2⟩
theorem calcSub_x (a b : Int) (ha : I64 a) (hb : I64 b) (w : World) : Calls Try.prog 70 #[.int .i64 a, .int .i64 b] w fun en w' => OutI (subX a b) en ∧ Dr w w' :=
  (calcSub_c a b ha hb w).mono fun e w' h => ⟨outI_out h.1 (subR_i64 a b), h.2⟩
theorem calcMul_x (a b : Int) (ha : I64 a) (hb : I64 b) (w : World) : Calls Try.prog 74 #[.int .i64 a, .int .i64 b] w fun en w' => OutI (mulX a b) en ∧ Dr w w' :=
  (calcMul_c a b ha hb w).mono fun e w' h => ⟨outI_out h.1 (mulR_i64 a b), h.2⟩
theorem calcDiv_x (a b : Int) (ha : I64 a) (hb : I64 b) (w : World) : Calls Try.prog 69 #[.int .i64 a, .int .i64 b] w fun en w' => OutI (divX a b) en ∧ Dr w w' :=
  (calcDiv_c a b ha hb w).mono fun e w' h => ⟨outI_out h.1 (divR_i64 a b), h.2⟩
end Go.Proofs.Ytcaibieaobhheaa
