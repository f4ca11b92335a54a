/- Variables of a law: blocks whose cells are known whole; what closures handed to Try set. -/
import Derived.Test.YtcaibieaobhheaaRefOut
import Derived.Deep.QuietTactic
import Derived.BigQuiet
namespace Go.Proofs.Ytcaibieaobhheaa
open Go.RowKit M
set_option maxRecDepth 100000
set_option maxHeartbeats 2000000
set_option linter.unusedVariables false
namespace M
/-- A variable's block: its cells, none frozen. -/
def Var (w : World) (b : Nat) (cs : Array Value) : Prop := b < w.heap.size ∧ (∀ o, w.cell? ⟨b, o, none⟩ = cs[o]?) ∧ ∀ o, w.frozen? ⟨b, o, none⟩ = false
theorem Var.lt {w : World} {b : Nat} {cs : Array Value} (h : Var w b cs) : b < w.heap.size := h.1
theorem Var.c {w : World} {b : Nat} {cs : Array Value} (h : Var w b cs) (o : Nat) (v : Value) (hv : cs[o]? = some v) : w.cell? ⟨b, o, none⟩ = some v := (h.2.1 o).trans hv
theorem Var.mono {w w' : World} {b : Nat} {cs : Array Value} (h : Var w b cs) (k : Below w.heap.size w w') : Var w' b cs :=
  ⟨Nat.lt_of_lt_of_le h.1 k.size, fun o => (k.cell (p := ⟨b, o, none⟩) h.1).trans (h.2.1 o), fun o => (k.frozen (p := ⟨b, o, none⟩) h.1).trans (h.2.2 o)⟩
theorem Var.mono' {w u w' : World} {b : Nat} {cs : Array Value} (h : Var u b cs) (hu : u.heap.size = w.heap.size) (k : Below w.heap.size u w') : Var w' b cs :=
  Var.mono h (by rw [hu]; exact k)
theorem var_alloc (w : World) (cs : Array Value) (t : TypeId) : Var (w.alloc (.cells cs t)) w.heap.size cs := by
  have e : (w.alloc (.cells cs t)).heap[w.heap.size]? = some (.cells cs t) := (MapKept.heap_alloc w _).1
  refine ⟨by simp, fun o => ?_, fun o => ?_⟩
  · unfold World.cell?; dsimp only; rw [e]; simp
  · unfold World.frozen?; dsimp only; rw [e]; simp
theorem Var.alloc {w : World} {b : Nat} {cs : Array Value} (h : Var w b cs) (o : Obj) : Var (w.alloc o) b cs := h.mono ((Below.refl _ _).alloc (Nat.le_refl _) _)
theorem Var.drewN {w : World} {b : Nat} {cs : Array Value} (h : Var w b cs) (n : Nat) : Var (w.drewN n) b cs := h
theorem Var.drew {w : World} {b : Nat} {cs : Array Value} (h : Var w b cs) : Var w.drew b cs := h
theorem Var.far {w : World} {b : Nat} {cs : Array Value} (h : Var w b cs) (p : Addr) (v : Value) (hp : p.block ≠ b) : Var (w.setCell p v) b cs :=
  ⟨by rw [setCell_size]; exact h.1, fun o => (World.cell?_setCell_far _ _ _ _ hp).trans (h.2.1 o), fun o => (World.frozen?_setCell _ _ _ _).trans (h.2.2 o)⟩
theorem Var.set {w : World} {b : Nat} {cs : Array Value} (h : Var w b cs) (i : Nat) (v : Value) (hi : i < cs.size) : Var (w.setCell ⟨b, i, none⟩ v) b (cs.setIfInBounds i v) := by
  refine ⟨by rw [setCell_size]; exact h.1, fun o => ?_, fun o => (World.frozen?_setCell _ _ _ _).trans (h.2.2 o)⟩
  by_cases ho : i = o
  · subst ho
    rw [World.cell?_setCell_same _ _ _ ((h.2.1 i).trans (Array.getElem?_eq_getElem hi))]
    simp [hi]
  · rw [World.cell?_setCell_other _ _ _ _ (by intro e; injection e with _ e2; exact ho e2), h.2.1 o]
    simp [ho]
theorem var_sets_far : ∀ (us : List (Addr × Value)) {w : World} {b : Nat} {cs : Array Value}, Var w b cs → (∀ u ∈ us, u.1.block ≠ b) → Var (sets w us) b cs
  | [], _, _, _, h, _ => h
  | u :: us, w, b, cs, h, hu => var_sets_far us (h.far u.1 u.2 (hu u (by simp))) (fun x hx => hu x (by simp [hx]))
theorem var_alloc' (w : World) (cs : Array Value) (t : TypeId) {n : Nat} (h : w.heap.size = n) : Var (w.alloc (.cells cs t)) n cs := h ▸ var_alloc w cs t
theorem below_sets_own {B : Nat} {w W : World} : ∀ (us : List (Addr × Value)), Below B w W → (∀ u ∈ us, B ≤ u.1.block) → Below B w (sets W us) := by
  intro us
  induction us generalizing W with
  | nil => exact fun h _ => h
  | cons u us ih => exact fun h hu => ih (h.setCell (hu u (by simp)) u.2) (fun x hx => hu x (by simp [hx]))
def usBd (pb : Nat) : X Bd → List (Addr × Value) | .ok q => [(⟨pb, 0, none⟩, .int .i64 q.shape), (⟨pb, 1, none⟩, .int .i64 q.sx), (⟨pb, 2, none⟩, .int .i64 q.sy), (⟨pb, 3, none⟩, .int .i64 q.mass), (⟨pb, 4, none⟩, .int .i64 q.px), (⟨pb, 5, none⟩, .int .i64 q.py), (⟨pb, 6, none⟩, .int .i64 q.mx), (⟨pb, 7, none⟩, .int .i64 q.my)] | .error _ => []
def usHt (pb : Nat) : X Ht → List (Addr × Value) | .ok q => [(⟨pb, 0, none⟩, .int .i64 q.nx), (⟨pb, 1, none⟩, .int .i64 q.ny), (⟨pb, 2, none⟩, .int .i64 q.d)] | .error _ => []
theorem sets_append : ∀ (a b : List (Addr × Value)) (w : World), sets w (a ++ b) = sets (sets w a) b
  | [], _, _ => rfl
  | u :: a, b, w => sets_append a b (w.setCell u.1 u.2)
/-- A world in which nothing that was there has turned. -/
structure Later (W : World) where
  w : World
  h : Below W.heap.size W w
instance (W : World) : Nonempty (Later W) := ⟨⟨W, Below.refl _ _⟩⟩
theorem wp_region_later {P : Program} {id : Nat} {Q : Exit → Act → World → Prop} {a : Act} {W : World} {l : List Oper} (S : World → Prop) (hm : P.follows .mixedOrders = true) (hB : Region.lexB .any l.toArray = true)
    (hS : ∀ w', Below W.heap.size W w' → S w')
    (h : (∀ p : Later W, S p.w) → wpQuiet P l.toArray (fun w' => ∃ p : Later W, w' = p.w) (fun a' => ∀ w', (∃ p : Later W, w' = p.w) → Q .normal a' w') l a) : (Code.region id l.toArray true).wp P Q a W :=
  wp_region_quiet (C := fun w' => ∃ p : Later W, w' = p.w) hm hB ⟨⟨_, (Below.refl _ _).drew⟩, rfl⟩ (by simpa using h (fun p => hS _ p.h))
theorem later_of {P : Program} {f : FuncId} {args : Array Value} {W : World} {p : Later W} {v : Value} (h : Calls P f args p.w fun e w' => e = .returned v ∧ Bw p.w w') :
    Calls P f args p.w fun e w'' => e = .returned v ∧ ∃ q : Later W, w'' = q.w :=
  h.mono fun _ w' ⟨he, hb⟩ => ⟨he, ⟨w', p.h.trans (hb.mono p.h.size)⟩, rfl⟩
theorem later_of_dr {P : Program} {f : FuncId} {args : Array Value} {W : World} {p : Later W} {v : Value} (h : Calls P f args p.w fun e w' => e = .returned v ∧ Dr p.w w') :
    Calls P f args p.w fun e w'' => e = .returned v ∧ ∃ q : Later W, w'' = q.w :=
  later_of (h.mono fun _ _ ⟨he, hd⟩ => ⟨he, hd.bw⟩)
/-- The error of an outcome; 0: none. -/
def errX {α : Type} : X α → Int | .ok _ => 0 | .error n => n
def usI (pb : Nat) : X Int → List (Addr × Value) | .ok x => [(⟨pb, 0, none⟩, .int .i64 x)] | .error _ => []
def usV (pb : Nat) : X V → List (Addr × Value) | .ok x => [(⟨pb, 0, none⟩, .int .i64 x.1), (⟨pb, 1, none⟩, .int .i64 x.2)] | .error _ => []
def usBx (pb : Nat) : X Bx → List (Addr × Value) | .ok q => [(⟨pb, 0, none⟩, .int .i64 q.lx), (⟨pb, 1, none⟩, .int .i64 q.ly), (⟨pb, 2, none⟩, .int .i64 q.hx), (⟨pb, 3, none⟩, .int .i64 q.hy)] | .error _ => []
theorem outU_0 : outU 0 = .returned (.tuple #[]) := rfl
theorem outU_n {n : Int} (h : n ≠ 0) : outU n = panics n := if_neg h
theorem var_setV {w : World} {b : Nat} {c0 c1 : Value} (h : Var w b #[c0, c1]) (x0 x1 : Value) : Var ((w.setCell ⟨b, 0, none⟩ x0).setCell ⟨b, 1, none⟩ x1) b #[x0, x1] := by
  have h0 : Var (w.setCell ⟨b, 0, none⟩ x0) b #[x0, c1] := h.set 0 x0 (by simp)
  have h1 : Var ((w.setCell ⟨b, 0, none⟩ x0).setCell ⟨b, 1, none⟩ x1) b #[x0, x1] := h0.set 1 x1 (by simp)
  exact h1
theorem var_setI {w : World} {b : Nat} {c0 : Value} (h : Var w b #[c0]) (x : Value) : Var (w.setCell ⟨b, 0, none⟩ x) b #[x] := h.set 0 x (by simp)
theorem var_setBx {w : World} {b : Nat} {c0 c1 c2 c3 : Value} (h : Var w b #[c0, c1, c2, c3]) (x0 x1 x2 x3 : Value) : Var ((((w.setCell ⟨b, 0, none⟩ x0).setCell ⟨b, 1, none⟩ x1).setCell ⟨b, 2, none⟩ x2).setCell ⟨b, 3, none⟩ x3) b #[x0, x1, x2, x3] := by
  have h0 : Var (w.setCell ⟨b, 0, none⟩ x0) b #[x0, c1, c2, c3] := h.set 0 x0 (by simp)
  have h1 : Var ((w.setCell ⟨b, 0, none⟩ x0).setCell ⟨b, 1, none⟩ x1) b #[x0, x1, c2, c3] := h0.set 1 x1 (by simp)
  have h2 : Var (((w.setCell ⟨b, 0, none⟩ x0).setCell ⟨b, 1, none⟩ x1).setCell ⟨b, 2, none⟩ x2) b #[x0, x1, x2, c3] := h1.set 2 x2 (by simp)
  have h3 : Var ((((w.setCell ⟨b, 0, none⟩ x0).setCell ⟨b, 1, none⟩ x1).setCell ⟨b, 2, none⟩ x2).setCell ⟨b, 3, none⟩ x3) b #[x0, x1, x2, x3] := h2.set 3 x3 (by simp)
  exact h3
theorem var_setHt {w : World} {b : Nat} {c0 c1 c2 : Value} (h : Var w b #[c0, c1, c2]) (x0 x1 x2 : Value) : Var (((w.setCell ⟨b, 0, none⟩ x0).setCell ⟨b, 1, none⟩ x1).setCell ⟨b, 2, none⟩ x2) b #[x0, x1, x2] := by
  have h0 : Var (w.setCell ⟨b, 0, none⟩ x0) b #[x0, c1, c2] := h.set 0 x0 (by simp)
  have h1 : Var ((w.setCell ⟨b, 0, none⟩ x0).setCell ⟨b, 1, none⟩ x1) b #[x0, x1, c2] := h0.set 1 x1 (by simp)
  have h2 : Var (((w.setCell ⟨b, 0, none⟩ x0).setCell ⟨b, 1, none⟩ x1).setCell ⟨b, 2, none⟩ x2) b #[x0, x1, x2] := h1.set 2 x2 (by simp)
  exact h2
theorem var_setBd {w : World} {b : Nat} {c0 c1 c2 c3 c4 c5 c6 c7 : Value} (h : Var w b #[c0, c1, c2, c3, c4, c5, c6, c7]) (x0 x1 x2 x3 x4 x5 x6 x7 : Value) : Var ((((((((w.setCell ⟨b, 0, none⟩ x0).setCell ⟨b, 1, none⟩ x1).setCell ⟨b, 2, none⟩ x2).setCell ⟨b, 3, none⟩ x3).setCell ⟨b, 4, none⟩ x4).setCell ⟨b, 5, none⟩ x5).setCell ⟨b, 6, none⟩ x6).setCell ⟨b, 7, none⟩ x7) b #[x0, x1, x2, x3, x4, x5, x6, x7] := by
  have h0 : Var (w.setCell ⟨b, 0, none⟩ x0) b #[x0, c1, c2, c3, c4, c5, c6, c7] := h.set 0 x0 (by simp)
  have h1 : Var ((w.setCell ⟨b, 0, none⟩ x0).setCell ⟨b, 1, none⟩ x1) b #[x0, x1, c2, c3, c4, c5, c6, c7] := h0.set 1 x1 (by simp)
  have h2 : Var (((w.setCell ⟨b, 0, none⟩ x0).setCell ⟨b, 1, none⟩ x1).setCell ⟨b, 2, none⟩ x2) b #[x0, x1, x2, c3, c4, c5, c6, c7] := h1.set 2 x2 (by simp)
  have h3 : Var ((((w.setCell ⟨b, 0, none⟩ x0).setCell ⟨b, 1, none⟩ x1).setCell ⟨b, 2, none⟩ x2).setCell ⟨b, 3, none⟩ x3) b #[x0, x1, x2, x3, c4, c5, c6, c7] := h2.set 3 x3 (by simp)
  have h4 : Var (((((w.setCell ⟨b, 0, none⟩ x0).setCell ⟨b, 1, none⟩ x1).setCell ⟨b, 2, none⟩ x2).setCell ⟨b, 3, none⟩ x3).setCell ⟨b, 4, none⟩ x4) b #[x0, x1, x2, x3, x4, c5, c6, c7] := h3.set 4 x4 (by simp)
  have h5 : Var ((((((w.setCell ⟨b, 0, none⟩ x0).setCell ⟨b, 1, none⟩ x1).setCell ⟨b, 2, none⟩ x2).setCell ⟨b, 3, none⟩ x3).setCell ⟨b, 4, none⟩ x4).setCell ⟨b, 5, none⟩ x5) b #[x0, x1, x2, x3, x4, x5, c6, c7] := h4.set 5 x5 (by simp)
  have h6 : Var (((((((w.setCell ⟨b, 0, none⟩ x0).setCell ⟨b, 1, none⟩ x1).setCell ⟨b, 2, none⟩ x2).setCell ⟨b, 3, none⟩ x3).setCell ⟨b, 4, none⟩ x4).setCell ⟨b, 5, none⟩ x5).setCell ⟨b, 6, none⟩ x6) b #[x0, x1, x2, x3, x4, x5, x6, c7] := h5.set 6 x6 (by simp)
  have h7 : Var ((((((((w.setCell ⟨b, 0, none⟩ x0).setCell ⟨b, 1, none⟩ x1).setCell ⟨b, 2, none⟩ x2).setCell ⟨b, 3, none⟩ x3).setCell ⟨b, 4, none⟩ x4).setCell ⟨b, 5, none⟩ x5).setCell ⟨b, 6, none⟩ x6).setCell ⟨b, 7, none⟩ x7) b #[x0, x1, x2, x3, x4, x5, x6, x7] := h6.set 7 x7 (by simp)
  exact h7
theorem usI_block {pb : Nat} {P : X Int} {u : Addr × Value} (h : u ∈ usI pb P) : u.1.block = pb := by
  cases P with
  | ok q => simp [usI] at h; rw [h]
  | error n => simp [usI] at h
theorem usV_block {pb : Nat} {P : X V} {u : Addr × Value} (h : u ∈ usV pb P) : u.1.block = pb := by
  cases P with
  | ok q => simp [usV] at h; rcases h with h | h <;> rw [h]
  | error n => simp [usV] at h
theorem usBx_block {pb : Nat} {P : X Bx} {u : Addr × Value} (h : u ∈ usBx pb P) : u.1.block = pb := by
  cases P with
  | ok q => simp [usBx] at h; rcases h with h | h | h | h <;> rw [h]
  | error n => simp [usBx] at h
theorem usHt_block {pb : Nat} {P : X Ht} {u : Addr × Value} (h : u ∈ usHt pb P) : u.1.block = pb := by
  cases P with
  | ok q => simp [usHt] at h; rcases h with h | h | h <;> rw [h]
  | error n => simp [usHt] at h
theorem usBd_block {pb : Nat} {P : X Bd} {u : Addr × Value} (h : u ∈ usBd pb P) : u.1.block = pb := by
  cases P with
  | ok q => simp [usBd] at h; rcases h with h | h | h | h | h | h | h | h <;> rw [h]
  | error n => simp [usBd] at h
theorem cell_block1 {a : Addr} {v : Value} {u : Addr × Value} (h : u ∈ [(a, v)]) : u.1.block = a.block := by simp at h; rw [h]
end M
end Go.Proofs.Ytcaibieaobhheaa
