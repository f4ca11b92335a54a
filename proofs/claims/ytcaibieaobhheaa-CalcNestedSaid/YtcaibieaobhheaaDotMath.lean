/- Sums, and sums of products: the plain laws of chapter 3. -/
import Derived.Test.YtcaibieaobhheaaMath
namespace Go.Proofs.Ytcaibieaobhheaa
open Go.RowKit M
set_option linter.unusedVariables false

/-- The sum of the products from s on: the sum as far as it goes, and the error that stops it. -/
def dotR : List Int → List Int → Int → Int × Int
  | x :: a, y :: b, s =>
    if (mulR x y).2 = 0 then (if (addR s (mulR x y).1).2 = 0 then dotR a b (addR s (mulR x y).1).1 else (s, (addR s (mulR x y).1).2)) else (s, (mulR x y).2)
  | _, _, s => (s, 0)


/-- A sum, number by number, as far as it goes. -/
def sumR : List Int → Int → Int × Int
  | x :: a, s => if (addR s x).2 = 0 then sumR a (addR s x).1 else (s, (addR s x).2)
  | [], s => (s, 0)
def ones (n : Nat) : List Int := List.replicate n 4294967296
/-- What is told of it: the number, or the error and 0. -/
def toldR (r : Int × Int) : Int × Int := if r.2 = 0 then r else (0, r.2)
def sumE (xs : List Int) : Int × Int := toldR (sumR xs 0)
def dotE (xs ys : List Int) : Int × Int := if xs.length = ys.length then toldR (dotR xs ys 0) else (0, 9)
theorem toldR_ok {r : Int × Int} (h : r.2 = 0) : toldR r = r := if_pos h
theorem toldR_err {r : Int × Int} (h : ¬ r.2 = 0) : toldR r = (0, r.2) := if_neg h
theorem dotR_ones : ∀ (xs : List Int) (s : Int), (∀ x ∈ xs, I64 x) → dotR xs (ones xs.length) s = sumR xs s
  | [], s, _ => rfl
  | x :: xs, s, h => by
    have e : mulR x 4294967296 = (x, 0) := mulR_one (h x (by simp))
    have ih := fun s => dotR_ones xs s (fun y hy => h y (by simp [hy]))
    unfold ones at *
    rw [List.length_cons, List.replicate_succ, dotR, sumR, e]
    simp only [if_true]
    split
    · exact ih _
    · rfl
theorem dotE_ones (xs : List Int) (h : ∀ x ∈ xs, I64 x) : dotE xs (ones xs.length) = sumE xs := by
  unfold dotE sumE; rw [if_pos (by simp [ones]), dotR_ones xs 0 h]
/-- One number more, unless something has gone wrong. -/
def stepS (p : Int × Int) (x : Int) : Int × Int := if p.2 = 0 then addR p.1 x else p
theorem foldS_err : ∀ (xs : List Int) (p : Int × Int), ¬ p.2 = 0 → xs.foldl stepS p = p
  | [], p, _ => rfl
  | x :: xs, p, h => by rw [List.foldl_cons, show stepS p x = p from if_neg h]; exact foldS_err xs p h
theorem foldS : ∀ (xs : List Int) (s : Int), (xs.foldl stepS (s, 0)).2 = (sumR xs s).2 ∧ ((sumR xs s).2 = 0 → (xs.foldl stepS (s, 0)).1 = (sumR xs s).1)
  | [], s => ⟨rfl, fun _ => rfl⟩
  | x :: xs, s => by
    rw [List.foldl_cons, show stepS (s, 0) x = addR s x from if_pos rfl, sumR]
    split
    · rename_i h
      rw [(addR_ok h).1]; exact foldS xs _
    · rename_i h
      rw [foldS_err xs _ h]; exact ⟨rfl, fun h2 => absurd h2 h⟩
theorem fold_sumE (xs : List Int) : toldR (xs.foldl stepS (0, 0)) = sumE xs := by
  have h := foldS xs 0
  unfold sumE toldR
  rw [h.1]
  split
  · rename_i h0; exact Prod.ext (h.2 h0) h.1
  · rfl
def stepD (p : Int × Int) (x y : Int) : Int × Int := if p.2 = 0 then (if (mulR x y).2 = 0 then addR p.1 (mulR x y).1 else (p.1, (mulR x y).2)) else p
def foldD : List Int → List Int → Int × Int → Int × Int
  | x :: a, y :: b, p => foldD a b (stepD p x y)
  | _, _, p => p
theorem foldD_err : ∀ (xs ys : List Int) (p : Int × Int), ¬ p.2 = 0 → foldD xs ys p = p
  | [], _, p, _ => by simp [foldD]
  | _ :: _, [], p, _ => by simp [foldD]
  | x :: xs, y :: ys, p, h => by rw [foldD, show stepD p x y = p from if_neg h]; exact foldD_err xs ys p h
theorem foldD_dotR : ∀ (xs ys : List Int) (s : Int), (foldD xs ys (s, 0)).2 = (dotR xs ys s).2 ∧ ((dotR xs ys s).2 = 0 → (foldD xs ys (s, 0)).1 = (dotR xs ys s).1)
  | [], _, s => by simp [foldD, dotR]
  | _ :: _, [], s => by simp [foldD, dotR]
  | x :: xs, y :: ys, s => by
    rw [foldD, dotR, show stepD (s, 0) x y = (if (mulR x y).2 = 0 then addR s (mulR x y).1 else (s, (mulR x y).2)) from if_pos rfl]
    by_cases hm : (mulR x y).2 = 0
    · rw [if_pos hm, if_pos hm]
      by_cases ha : (addR s (mulR x y).1).2 = 0
      · rw [if_pos ha, (addR_ok ha).1]; exact foldD_dotR xs ys _
      · rw [if_neg ha, foldD_err xs ys _ ha]; exact ⟨rfl, fun h => absurd h ha⟩
    · rw [if_neg hm, if_neg hm, foldD_err xs ys (s, (mulR x y).2) hm]; exact ⟨rfl, fun h => absurd h hm⟩
theorem foldD_drop {xs ys : List Int} {i : Nat} {x y : Int} (hx : xs[i]? = some x) (hy : ys[i]? = some y) (p : Int × Int) :
    foldD (xs.drop i) (ys.drop i) p = foldD (xs.drop (i + 1)) (ys.drop (i + 1)) (stepD p x y) := by
  obtain ⟨h1, rfl⟩ := List.getElem?_eq_some_iff.1 hx
  obtain ⟨h2, rfl⟩ := List.getElem?_eq_some_iff.1 hy
  rw [List.drop_eq_getElem_cons h1, List.drop_eq_getElem_cons h2, foldD]
theorem fold_dotE {xs ys : List Int} (hl : xs.length = ys.length) : toldR (foldD xs ys (0, 0)) = dotE xs ys := by
  have h := foldD_dotR xs ys 0
  unfold dotE toldR
  rw [if_pos hl, h.1]
  split
  · rename_i h0; exact Prod.ext (h.2 h0) h.1
  · rfl
theorem sumR_err : ∀ (xs : List Int) (s : Int), (sumR xs s).2 = 0 ∨ (sumR xs s).2 = 3
  | [], s => .inl rfl
  | x :: xs, s => by
    rw [sumR]; split
    · exact sumR_err xs _
    · rename_i h; rcases addR_err s x with k | k
      · exact absurd k h
      · rw [k]; exact .inr rfl
theorem sumR_append : ∀ (xs ys : List Int) (s : Int), sumR (xs ++ ys) s = if (sumR xs s).2 = 0 then sumR ys (sumR xs s).1 else sumR xs s
  | [], ys, s => by rw [List.nil_append, sumR, if_pos rfl]
  | x :: xs, ys, s => by
    rw [List.cons_append, sumR, sumR]
    by_cases h : (addR s x).2 = 0
    · rw [if_pos h, if_pos h]; exact sumR_append xs ys _
    · rw [if_neg h, if_neg h, if_neg h]
theorem sumR_add : ∀ (xs : List Int) (s t : Int), (sumR xs s).2 = 0 → (sumR xs t).2 = 0 → (sumR xs s).1 - s = (sumR xs t).1 - t
  | [], s, t, _, _ => by simp only [sumR]; omega
  | x :: xs, s, t, h, k => by
    rw [sumR] at h k ⊢
    rw [sumR]
    by_cases h1 : (addR s x).2 = 0
    · by_cases h2 : (addR t x).2 = 0
      · rw [if_pos h1] at h; rw [if_pos h2] at k
        rw [if_pos h1, if_pos h2]
        rw [(addR_ok h1).1] at h ⊢; rw [(addR_ok h2).1] at k ⊢
        dsimp only at *
        have := sumR_add xs _ _ h k; omega
      · rw [if_neg h2] at k; exact absurd k h2
    · rw [if_neg h1] at h; exact absurd h h1
theorem sumR_i64 : ∀ (xs : List Int) (s : Int), I64 s → I64 (sumR xs s).1
  | [], s, h => h
  | x :: xs, s, h => by
    rw [sumR]; split
    · exact sumR_i64 xs _ (addR_i64 s x)
    · exact h
/-- CalcOrder. -/
theorem sumE_order (xs ys : List Int) :
    (¬ (sumE xs).2 = 0 → (sumE (xs ++ ys)).2 = (sumE xs).2 ∧ (sumE (xs ++ ys)).1 = 0)
    ∧ ((sumE xs).2 = 0 → ((sumE (xs ++ ys)).2 = 0 ∨ (sumE (xs ++ ys)).2 = 3))
    ∧ ((sumE xs).2 = 0 → (sumE (xs ++ ys)).2 = 0 → (sumE ys).2 = 0 → sumE [(sumE xs).1, (sumE ys).1] = ((sumE (xs ++ ys)).1, 0)) := by
  have e := sumR_append xs ys 0
  have p2 : ∀ r : Int × Int, (toldR r).2 = r.2 := fun r => by unfold toldR; split <;> rfl
  refine ⟨fun h => ?_, fun h => ?_, fun h h2 h3 => ?_⟩
  · unfold sumE at *
    rw [p2] at h
    rw [if_neg h] at e
    rw [e, p2, toldR_err h]; exact ⟨rfl, rfl⟩
  · unfold sumE; rw [p2]; exact sumR_err _ _
  · unfold sumE at *
    rw [p2] at h h2 h3
    rw [if_pos h] at e
    rw [e] at h2
    rw [e, toldR_ok h, toldR_ok h3, toldR_ok h2]
    have a1 := sumR_add ys _ _ h2 h3
    have i1 := sumR_i64 xs 0 (by unfold I64; omega)
    have i2 : I64 (sumR ys (sumR xs 0).1).1 := sumR_i64 ys _ i1
    have k1 : addR 0 (sumR xs 0).1 = ((sumR xs 0).1, 0) := by rw [addR_in (by rw [Int.zero_add]; exact i1), Int.zero_add]
    have k2 : addR (sumR xs 0).1 (sumR ys 0).1 = ((sumR ys (sumR xs 0).1).1, 0) := by
      have q : (sumR xs 0).1 + (sumR ys 0).1 = (sumR ys (sumR xs 0).1).1 := by omega
      rw [addR_in (by rw [q]; exact i2), q]
    have s0 : sumR [(sumR xs 0).1, (sumR ys 0).1] 0 = ((sumR ys (sumR xs 0).1).1, 0) := by
      simp only [sumR, k1, k2, if_true]
    rw [s0, toldR_ok rfl]
theorem dotR_zeros : ∀ (xs : List Int) (s : Int), I64 s → dotR (List.replicate xs.length 0) xs s = (s, 0)
  | [], s, _ => rfl
  | x :: xs, s, h => by
    have e : mulR 0 x = (0, 0) := by rw [mulR_comm]; exact mulR_zero x
    have e2 : addR s 0 = (s, 0) := by rw [addR_in (by rw [Int.add_zero]; exact h), Int.add_zero]
    rw [List.length_cons, List.replicate_succ, dotR, e]
    simp only [if_true, e2]
    exact dotR_zeros xs s h
theorem dotE_zeros (xs : List Int) : dotE (List.replicate xs.length 0) xs = (0, 0) := by
  unfold dotE; rw [if_pos (by simp), dotR_zeros xs 0 (by unfold I64; omega)]; rfl
end Go.Proofs.Ytcaibieaobhheaa
