/- What the reference's reckoner does to its cell E, call by call; its numbers against the program's. -/
import Derived.Test.YtcaibieaobhheaaOut
import Derived.Deep.RegionHeld
namespace Go.Proofs.Ytcaibieaobhheaa
open Go.RowKit M
set_option maxRecDepth 100000
set_option maxHeartbeats 2000000
set_option linter.unusedVariables false
namespace M
theorem setCell_two (w : World) (p : Addr) (u v : Value) : (w.setCell p u).setCell p v = w.setCell p v := by
  have e : ((w.setCell p u).setCell p v).heap = (w.setCell p v).heap := by
    unfold World.setCell
    apply Array.ext_getElem?
    intro i
    rw [Array.getElem?_modify, Array.getElem?_modify, Array.getElem?_modify]
    split
    · cases ho : w.heap[i]? with
      | none => rfl
      | some o =>
        cases o with
        | cells c elem fr =>
          simp only [Option.map_some]
          split
          · rfl
          · simp [Array.setIfInBounds_setIfInBounds]
        | _ => rfl
    · rfl
  exact congrArg (fun h : Array Obj => ({ w with heap := h } : World)) e
/-- e: what had gone wrong; P: what the program reckons. v and e': what the reference answers, and what has gone wrong by now. -/
def Rel {α : Type} (e : Int) (P : X α) (v : α) (e' : Int) : Prop := (e ≠ 0 ∧ e' = e) ∨ (e = 0 ∧ e' = 0 ∧ P = .ok v) ∨ (e = 0 ∧ e' ≠ 0 ∧ P = .error e')
theorem rel_ok {α : Type} (e : Int) (v : α) : Rel e (.ok v) v e := by
  by_cases h : e = 0
  · exact .inr (.inl ⟨h, h, rfl⟩)
  · exact .inl ⟨h, rfl⟩
theorem rel_bind {α β : Type} {e e1 e2 : Int} {P : X α} {Q : α → X β} {v : α} {u : β} (h : Rel e P v e1) (k : Rel e1 (Q v) u e2) : Rel e (andThen P Q) u e2 := by
  rcases h with ⟨h, rfl⟩ | ⟨h, rfl, rfl⟩ | ⟨h, h1, rfl⟩
  · rcases k with ⟨_, k⟩ | ⟨k, _⟩ | ⟨k, _⟩
    · exact .inl ⟨h, k⟩
    · exact absurd k h
    · exact absurd k h
  · rcases k with ⟨k, _⟩ | ⟨_, k1, k2⟩ | ⟨_, k1, k2⟩
    · exact absurd rfl k
    · exact .inr (.inl ⟨h, k1, k2⟩)
    · exact .inr (.inr ⟨h, k1, k2⟩)
  · rcases k with ⟨_, k⟩ | ⟨k, _⟩ | ⟨k, _⟩
    · exact .inr (.inr ⟨h, by rw [k]; exact h1, by rw [k]; rfl⟩)
    · exact absurd k h1
    · exact absurd k h1
theorem rel_then (e : Int) (r : Int × Int) : Rel e (liftR r) (thenR e r).1 (thenR e r).2 := by
  by_cases h : e = 0
  · subst h
    rw [thenR_zero]
    obtain ⟨v, n⟩ := r
    by_cases hn : n = 0
    · subst hn; exact .inr (.inl ⟨rfl, rfl, rfl⟩)
    · exact .inr (.inr ⟨rfl, hn, by unfold liftR; dsimp only; rw [if_neg hn]⟩)
  · rw [thenR_err h]; exact .inl ⟨h, rfl⟩
theorem thenR_i64 {e : Int} {r : Int × Int} (h : I64 r.1) : I64 (thenR e r).1 := by
  unfold thenR; split
  · exact h
  · unfold I64; dsimp only; omega
/-- The reckoner's cell: its block, what it holds. -/
def PCell (w : World) (pb : Nat) (e : Int) : Prop := pb < w.heap.size ∧ w.cell? ⟨pb, 0, none⟩ = some (.int .i64 e) ∧ w.frozen? ⟨pb, 0, none⟩ = false
abbrev RW (pb : Nat) (e : Int) (w w' : World) : Prop := Below w.heap.size (w.setCell ⟨pb, 0, none⟩ (.int .i64 e)) w'
theorem setCell_size (w : World) (p : Addr) (v : Value) : (w.setCell p v).heap.size = w.heap.size := by simp [World.setCell]
theorem pcell_behind {W w1 : World} {pb : Nat} {e e' : Int} (h : RW pb e' W w1) (hp : PCell W pb e) : PCell w1 pb e' :=
  ⟨Nat.lt_of_lt_of_le hp.1 (by have := h.size; rwa [setCell_size] at this), (h.cell (p := ⟨pb, 0, none⟩) hp.1).trans (World.cell?_setCell_same _ _ _ hp.2.1),
    (h.frozen (p := ⟨pb, 0, none⟩) hp.1).trans ((World.frozen?_setCell _ _ _ _).trans hp.2.2)⟩
theorem pcell_at {w W : World} {pb : Nat} {e : Int} (h : PCell w pb e) (h1 : pb < W.heap.size) (h2 : W.cell? ⟨pb, 0, none⟩ = some (.int .i64 e)) (h3 : W.frozen? ⟨pb, 0, none⟩ = false) : PCell W pb e := ⟨h1, h2, h3⟩
theorem rw_refl {w : World} {pb : Nat} {e : Int} (hp : PCell w pb e) : RW pb e w w := by
  unfold RW; rw [setCell_self hp.2.1]; exact Below.refl _ _
theorem rw_step {w W w1 : World} {pb : Nat} {e e' : Int} (g : RW pb e w W) (h : RW pb e' W w1) (hp : pb < w.heap.size) : RW pb e' w w1 := by
  have k := below_setCell_both g ⟨pb, 0, none⟩ hp (.int .i64 e')
  rw [setCell_two] at k
  have hs := g.size
  rw [setCell_size] at hs
  exact k.trans (h.mono hs)
theorem rw_bw {w w1 w2 : World} {pb : Nat} {e : Int} (h : RW pb e w w1) (k : Bw w1 w2) : RW pb e w w2 := by
  have hs := h.size
  rw [setCell_size] at hs
  exact h.trans (k.mono hs)
theorem atE_rw {w w' : World} {pb : Nat} {e : Int} (h : AtE w ⟨pb, 0, none⟩ e w') : RW pb e w w' := by
  obtain ⟨n, rfl⟩ := h; exact Below.drewN (Below.refl _ _) n
theorem rcell {W w1 : World} {pb : Nat} {e : Int} (hb : RW pb e W w1) : (∀ b o, b < W.heap.size → b ≠ pb → w1.cell? ⟨b, o, none⟩ = W.cell? ⟨b, o, none⟩) ∧ (∀ b o, b < W.heap.size → w1.frozen? ⟨b, o, none⟩ = W.frozen? ⟨b, o, none⟩) :=
  ⟨fun b o h h2 => (hb.cell (p := ⟨b, o, none⟩) h).trans (World.cell?_setCell_far _ _ _ _ (Ne.symm h2)), fun b o h => (hb.frozen (p := ⟨b, o, none⟩) h).trans (World.frozen?_setCell _ _ _ _)⟩
/-- A number of the reference's. -/
def RelI (pb : Nat) (e : Int) (P : X Int) (w : World) (en : Ending) (w' : World) : Prop := ∃ v e', en = .returned (.int .i64 v) ∧ I64 v ∧ Rel e P v e' ∧ RW pb e' w w'
def RelV (pb : Nat) (e : Int) (P : X V) (w : World) (en : Ending) (w' : World) : Prop := ∃ x y e', en = .returned (.agg #[.int .i64 x, .int .i64 y]) ∧ I64 x ∧ I64 y ∧ Rel e P (x, y) e' ∧ RW pb e' w w'
def RelVI (pb : Nat) (e : Int) (P : X (V × Int)) (w : World) (en : Ending) (w' : World) : Prop := ∃ x y l e', en = .returned (.tuple #[.agg #[.int .i64 x, .int .i64 y], .int .i64 l]) ∧ I64 x ∧ I64 y ∧ I64 l ∧ Rel e P ((x, y), l) e' ∧ RW pb e' w w'
def RelBx (pb : Nat) (e : Int) (P : X Bx) (w : World) (en : Ending) (w' : World) : Prop := ∃ q e', en = .returned (.agg #[.int .i64 q.lx, .int .i64 q.ly, .int .i64 q.hx, .int .i64 q.hy]) ∧ q.ok ∧ Rel e P q e' ∧ RW pb e' w w'
def RelHt (pb : Nat) (e : Int) (P : X Ht) (w : World) (en : Ending) (w' : World) : Prop := ∃ q e', en = .returned (.agg #[.int .i64 q.nx, .int .i64 q.ny, .int .i64 q.d]) ∧ q.ok ∧ Rel e P q e' ∧ RW pb e' w w'
def RelHb (pb : Nat) (e : Int) (P : X (Ht × Bool)) (w : World) (en : Ending) (w' : World) : Prop := ∃ q t e', en = .returned (.tuple #[.agg #[.int .i64 q.nx, .int .i64 q.ny, .int .i64 q.d], .bool t]) ∧ q.ok ∧ Rel e P (q, t) e' ∧ RW pb e' w w'
def RelBB (pb : Nat) (e : Int) (P : X (Bd × Bd)) (w : World) (en : Ending) (w' : World) : Prop := ∃ u v e', en = .returned (.tuple #[.agg #[.int .i64 u.shape, .int .i64 u.sx, .int .i64 u.sy, .int .i64 u.mass, .int .i64 u.px, .int .i64 u.py, .int .i64 u.mx, .int .i64 u.my], .agg #[.int .i64 v.shape, .int .i64 v.sx, .int .i64 v.sy, .int .i64 v.mass, .int .i64 v.px, .int .i64 v.py, .int .i64 v.mx, .int .i64 v.my]]) ∧ u.ok ∧ v.ok ∧ Rel e P (u, v) e' ∧ RW pb e' w w'
end M
theorem refAdd_x (pb : Nat) (e a b : Int) (ha : I64 a) (hb : I64 b) (w : World) (hp : PCell w pb e) :
    Calls Try.prog 78 #[.pointer (some ⟨pb, 0, none⟩), .int .i64 a, .int .i64 b] w (RelI pb e (addX a b) w) :=
  (refAdd_c ⟨pb, 0, none⟩ e a b ha hb w hp.2.1 hp.2.2).mono fun en w' h => ⟨_, _, h.1, thenR_i64 (addR_i64 a b), rel_then _ _, atE_rw h.2⟩
theorem refSub_x (pb : Nat) (e a b : Int) (ha : I64 a) (hb : I64 b) (w : World) (hp : PCell w pb e) :
    Calls Try.prog 83 #[.pointer (some ⟨pb, 0, none⟩), .int .i64 a, .int .i64 b] w (RelI pb e (subX a b) w) :=
  (refSub_c ⟨pb, 0, none⟩ e a b ha hb w hp.2.1 hp.2.2).mono fun en w' h => ⟨_, _, h.1, thenR_i64 (subR_i64 a b), rel_then _ _, atE_rw h.2⟩
theorem refMul_x (pb : Nat) (e a b : Int) (ha : I64 a) (hb : I64 b) (w : World) (hp : PCell w pb e) :
    Calls Try.prog 85 #[.pointer (some ⟨pb, 0, none⟩), .int .i64 a, .int .i64 b] w (RelI pb e (mulX a b) w) :=
  (refMul_c ⟨pb, 0, none⟩ e a b ha hb w hp.2.1 hp.2.2).mono fun en w' h => ⟨_, _, h.1, thenR_i64 (mulR_i64 a b), rel_then _ _, atE_rw h.2⟩
theorem refDiv_x (pb : Nat) (e a b : Int) (ha : I64 a) (hb : I64 b) (w : World) (hp : PCell w pb e) :
    Calls Try.prog 82 #[.pointer (some ⟨pb, 0, none⟩), .int .i64 a, .int .i64 b] w (RelI pb e (divX a b) w) :=
  (refDiv_c ⟨pb, 0, none⟩ e a b ha hb w hp.2.1 hp.2.2).mono fun en w' h => ⟨_, _, h.1, thenR_i64 (divR_i64 a b), rel_then _ _, atE_rw h.2⟩
theorem refLen_x (pb : Nat) (e a b : Int) (ha : I64 a) (hb : I64 b) (w : World) (hp : PCell w pb e) :
    Calls Try.prog 116 #[.pointer (some ⟨pb, 0, none⟩), .int .i64 a, .int .i64 b] w (RelI pb e (lenX a b) w) :=
  (refLen_c ⟨pb, 0, none⟩ e a b ha hb w hp.2.1 hp.2.2).mono fun en w' h => ⟨_, _, h.1, thenR_i64 (lenR_i64 ha hb), rel_then _ _, atE_rw h.2⟩
theorem refFail_x (pb : Nat) (e x : Int) (hx : x ≠ 0) (w : World) (hp : PCell w pb e) {α : Type} (v : α) :
    Calls Try.prog 110 #[.pointer (some ⟨pb, 0, none⟩), .int .i64 x] w fun en w' => ∃ e', en = .returned (.int .i64 0) ∧ Rel e (.error x) v e' ∧ RW pb e' w w' :=
  (fail_c ⟨pb, 0, none⟩ e x w hp.2.1 hp.2.2).mono fun en w' h => ⟨_, h.1, by
    by_cases he : e = 0
    · rw [if_pos he]; exact .inr (.inr ⟨he, hx, rfl⟩)
    · rw [if_neg he]; exact .inl ⟨he, rfl⟩, atE_rw h.2⟩
end Go.Proofs.Ytcaibieaobhheaa
