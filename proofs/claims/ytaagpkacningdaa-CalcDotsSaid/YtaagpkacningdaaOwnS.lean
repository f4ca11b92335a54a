/- Rows of the call's own: of equal numbers; as lists. -/
import Derived.Test.YtaagpkacningdaaClo3
import Derived.Test.YtaagpkacningdaaArgsS
import Derived.RangeFuncBox
namespace Go.Proofs.Ytaagpkacningdaa
open Go.RowKit M
set_option maxRecDepth 100000
set_option maxHeartbeats 2000000
set_option linter.unusedVariables false
set_option linter.unusedSimpArgs false
theorem rows_apart {w : World} {base : Nat} {F : TypeId} {u v : Value} {n m : Nat} {xs ys : List Value} {a c : Value} (h1 : w.ownsRow base F 1 v (n + 1) xs) (h2 : w.ownsRow base F 1 u (m + 1) ys) (ha : xs[0]? = some a) (hc : ys[0]? = some c) (hne : a ≠ c) : u.ownBlock ≠ v.ownBlock := by
  obtain ⟨g, cap, rfl⟩ := ownsRow_succ h1
  obtain ⟨g2, cap2, rfl⟩ := ownsRow_succ h2
  intro e
  simp only [Value.ownBlock, Option.some.injEq] at e
  have e1 := h1.cellAt 0 (by omega)
  have e2 := h2.cellAt 0 (by omega)
  rw [ha] at e1; rw [hc] at e2
  subst e
  rw [e1] at e2
  injection e2 with e2
  exact hne e2
theorem own_below {w w' : World} {base : Nat} {F : TypeId} {v : Value} {n : Nat} {xs : List Value} (h : w.ownsRow base F 1 v n xs) (hb : Bw w w') : w'.ownsRow base F 1 v n xs :=
  h.kept (row := none) ⟨hb.os, hb.tape, hb.output, hb.size, fun k hk _ => hb.block k hk⟩ (by cases v.ownBlock <;> simp)
theorem row_own {w : World} {base : Nat} {F : TypeId} {v : Value} {xs : List Int} (h : w.ownsRow base F 1 v xs.length (xs.map (Value.int .i64))) (h0 : xs = [] → v = .slice none 0 0) (hi : ∀ x ∈ xs, I64 x) :
    ∃ (oa : Option Addr) (c : Nat), v = .slice oa xs.length c ∧ Row w oa xs := by
  cases xs with
  | nil => exact ⟨none, 0, h0 rfl, fun i x hx => by simp at hx⟩
  | cons y ys =>
    obtain ⟨g, cap, rfl⟩ := ownsRow_succ h
    refine ⟨some ⟨g, 0, none⟩, cap, rfl, fun i x hx => ⟨g, 0, rfl, ?_, hi x (List.mem_of_getElem? hx)⟩⟩
    have hlt := (List.getElem?_eq_some_iff.1 hx).1
    rw [Nat.zero_add, h.cellAt i (by rw [Nat.mul_one]; exact hlt), List.getElem?_map, hx]; rfl
theorem cell_new1 (w : World) (v : Value) (t : TypeId) : ∀ j u, [v][j]? = some u → (w.alloc (.cells #[v] t)).cell? ((⟨w.heap.size, 0, none⟩ : Addr).add j) = some u := by
  intro j u hu
  cases j with
  | zero => simp at hu; subst hu; exact (var_alloc w #[v] t).c 0 v rfl
  | succ j => simp at hu
/-- One round of CalcDots: one more 1, one more 0. -/
theorem dots_step {w wr w1 : World} {F : TypeId} {s3 s4 v3 : Value} {i : Nat} {o1 : Obj}
    (hA : wr.ownsRow w.heap.size F 1 s3 i ((List.replicate i (4294967296 : Int)).map (Value.int .i64))) (hB : wr.ownsRow w.heap.size F 1 s4 i ((List.replicate i (0 : Int)).map (Value.int .i64)))
    (h0 : i = 0 → s3 = .slice none 0 0 ∧ s4 = .slice none 0 0) (hb : Bw w wr)
    (r1 : w1.ownsRow w.heap.size F 1 v3 (i + 1) ((List.replicate i (4294967296 : Int)).map (Value.int .i64) ++ [.int .i64 4294967296])) (g1 : (wr.alloc o1).grownBy w1 s3.ownBlock) :
    w1.ownsRow w.heap.size F 1 s4 i ((List.replicate i (0 : Int)).map (Value.int .i64)) ∧ Bw w w1 := by
  refine ⟨(hB.alloc o1).kept g1 ?_, (hb.alloc hb.size _).grown g1 (by have := hb.size; simp; omega) (fun k hk => (hA.lt k hk).1)⟩
  cases i with
  | zero => left; rw [(h0 rfl).2]; rfl
  | succ i => right; exact rows_apart hA hB (by simp [List.replicate_succ]; rfl) (by simp [List.replicate_succ]; rfl) (by simp)
theorem dots_step2 {w w1 w2 : World} {F : TypeId} {s4 v3 v4 : Value} {i : Nat} {o2 : Obj}
    (r1 : w1.ownsRow w.heap.size F 1 v3 (i + 1) ((List.replicate i (4294967296 : Int)).map (Value.int .i64) ++ [.int .i64 4294967296])) (hB : w1.ownsRow w.heap.size F 1 s4 i ((List.replicate i (0 : Int)).map (Value.int .i64)))
    (h0 : i = 0 → s4 = .slice none 0 0) (hb : Bw w w1)
    (r2 : w2.ownsRow w.heap.size F 1 v4 (i + 1) ((List.replicate i (0 : Int)).map (Value.int .i64) ++ [.int .i64 0])) (g2 : (w1.alloc o2).grownBy w2 s4.ownBlock) :
    w2.ownsRow w.heap.size F 1 v3 (i + 1) ((List.replicate (i + 1) (4294967296 : Int)).map (Value.int .i64)) ∧ w2.ownsRow w.heap.size F 1 v4 (i + 1) ((List.replicate (i + 1) (0 : Int)).map (Value.int .i64)) ∧ Bw w w2 := by
  rw [List.replicate_succ', List.map_append, List.replicate_succ', List.map_append]
  refine ⟨(r1.alloc o2).kept g2 ?_, r2, (hb.alloc hb.size _).grown g2 (by have := hb.size; simp; omega) (fun k hk => (hB.lt k hk).1)⟩
  right
  cases i with
  | zero => rw [h0 rfl]; obtain ⟨g, cap, rfl⟩ := ownsRow_succ r1; simp [Value.ownBlock]
  | succ i => exact rows_apart hB r1 (by simp [List.replicate_succ]; rfl) (by simp [List.replicate_succ]; rfl) (by simp)
end Go.Proofs.Ytaagpkacningdaa
