/- Roots, bit by bit: the plain law. -/
import Derived.Test.YtcaibieaobhheaaMath
import Derived.Laws.Bits64b
namespace Go.Proofs.Ytcaibieaobhheaa
open Go.RowKit M
set_option linter.unusedVariables false
/-! draws stand outermost -/
@[go_sem] theorem drewN_alloc (w : World) (n : Nat) (o : Obj) : (w.drewN n).alloc o = (w.alloc o).drewN n := rfl
@[go_sem] theorem drewN_setCell (w : World) (n : Nat) (p : Addr) (v : Value) : (w.drewN n).setCell p v = (w.setCell p v).drewN n := rfl
theorem setCell_self {w : World} {p : Addr} {v : Value} (h : w.cell? p = some v) : w.setCell p v = w := by
  unfold World.setCell
  unfold World.cell? at h
  have e : w.heap.modify p.block (fun
      | .cells c elem frozen => .cells (if p.spot.isSome then c else c.setIfInBounds p.off v) elem frozen
      | o => o) = w.heap := by
    apply Array.ext_getElem?
    intro i
    rw [Array.getElem?_modify]
    split
    · rename_i hi
      subst hi
      cases ho : w.heap[p.block]? with
      | none => rfl
      | some o =>
        rw [ho] at h
        cases o with
        | cells c elem fr =>
          simp only [Option.map_some, Option.some.injEq, Obj.cells.injEq, and_true]
          simp only at h
          split at h
          · simp at h
          · rename_i hs
            rw [if_neg hs]
            apply Array.ext_getElem?
            intro j
            rw [Array.getElem?_setIfInBounds]
            split
            · rename_i hj
              subst hj
              split
              · exact h.symm
              · rename_i hlt
                rw [Array.getElem?_eq_none (by omega)]
            · rfl
        | _ => rfl
    · rfl
  exact congrArg (fun h : Array Obj => ({ w with heap := h } : World)) e
namespace M

/-- The root of n, of whose bits those from k on are known to be r. -/
def rootB : Nat → Nat → Nat → Nat
  | 0, r, _ => r
  | k + 1, r, n => if (r + 2 ^ k) * (r + 2 ^ k) ≤ n then rootB k (r + 2 ^ k) n else rootB k r n

theorem rootB_spec : ∀ (k r n : Nat), r * r ≤ n → n < (r + 2 ^ k) * (r + 2 ^ k) →
    rootB k r n * rootB k r n ≤ n ∧ n < (rootB k r n + 1) * (rootB k r n + 1)
  | 0, r, n, h1, h2 => by simpa [rootB] using ⟨h1, h2⟩
  | k + 1, r, n, h1, h2 => by
    rw [rootB]
    by_cases h : (r + 2 ^ k) * (r + 2 ^ k) ≤ n
    · rw [if_pos h]
      refine rootB_spec k _ n h ?_
      rw [Nat.add_assoc, ← Nat.two_mul, ← Nat.pow_succ']; exact h2
    · rw [if_neg h]
      exact rootB_spec k r n h1 (by omega)

def isq (n : Int) : Int := (rootB 64 0 n.toNat : Int)

theorem isq_nonneg (n : Int) : 0 ≤ isq n := by unfold isq; omega
theorem isq_spec {n : Int} (h0 : 0 ≤ n) (h1 : n < 340282366920938463463374607431768211456) :
    isq n * isq n ≤ n ∧ n < (isq n + 1) * (isq n + 1) := by
  have e : ((0 + 2 ^ 64) * (0 + 2 ^ 64) : Nat) = 340282366920938463463374607431768211456 := by decide
  have h := rootB_spec 64 0 n.toNat (by omega) (by rw [e]; omega)
  unfold isq
  have h2 : ((rootB 64 0 n.toNat * rootB 64 0 n.toNat : Nat) : Int) ≤ n := by omega
  have h3 : n < (((rootB 64 0 n.toNat + 1) * (rootB 64 0 n.toNat + 1) : Nat) : Int) := by omega
  simp only [Int.natCast_mul, Int.natCast_add] at h2 h3
  exact ⟨h2, h3⟩

/-- Of squares the greater one has the greater side. -/
theorem sq_lt {a b : Int} (hb : 0 ≤ b) (h : a * a < b * b) : a < b := by
  apply Classical.byContradiction
  intro hn
  have : b * b ≤ a * a := Int.mul_le_mul (by omega) (by omega) hb (by omega)
  omega
theorem sq_le {a b : Int} (hb : 0 ≤ b) (h : a * a ≤ b * b) : a ≤ b := by
  apply Classical.byContradiction
  intro hn
  have : (b + 1) * (b + 1) ≤ a * a := Int.mul_le_mul (by omega) (by omega) (by omega) (by omega)
  rw [Int.add_mul, Int.mul_add] at this; omega
theorem isq_unique {n r : Int} (h0 : 0 ≤ n) (h1 : n < 340282366920938463463374607431768211456) (hr : 0 ≤ r) (h2 : r * r ≤ n) (h3 : n < (r + 1) * (r + 1)) : isq n = r := by
  obtain ⟨a, b⟩ := isq_spec h0 h1
  have c := isq_nonneg n
  have := sq_lt (a := isq n) (b := r + 1) (by omega) (by omega)
  have := sq_lt (a := r) (b := isq n + 1) (by omega) (by omega)
  omega
theorem isq_sq {r : Int} (hr : 0 ≤ r) (h : r < 18446744073709551616) : isq (r * r) = r := by
  have h0 : 0 ≤ r * r := Int.mul_nonneg hr hr
  have h1 : r * r ≤ 18446744073709551615 * 18446744073709551615 := Int.mul_le_mul (by omega) (by omega) hr (by omega)
  refine isq_unique h0 (by omega) hr (by omega) ?_
  rw [Int.add_mul, Int.mul_add]; omega
theorem isq_mono {m n : Int} (h0 : 0 ≤ m) (h : m ≤ n) (h1 : n < 340282366920938463463374607431768211456) : isq m ≤ isq n := by
  obtain ⟨a, b⟩ := isq_spec h0 (by omega)
  obtain ⟨c, d⟩ := isq_spec (n := n) (by omega) h1
  have e := isq_nonneg n
  have := sq_lt (a := isq m) (b := isq n + 1) (by omega) (by omega)
  omega
theorem isq_lt {n b : Int} (h0 : 0 ≤ n) (h1 : n < 340282366920938463463374607431768211456) (hb : 0 ≤ b) (h : n < b * b) : isq n < b := by
  obtain ⟨a, _⟩ := isq_spec h0 h1
  exact sq_lt hb (by omega)
theorem isq_le {n b : Int} (h0 : 0 ≤ n) (h1 : n < 340282366920938463463374607431768211456) (hb : 0 ≤ b) (h : b * b ≤ n) : b ≤ isq n := by
  obtain ⟨_, a⟩ := isq_spec h0 h1
  have := sq_lt (a := b) (b := isq n + 1) (by have := isq_nonneg n; omega) (by omega)
  omega
theorem isq_u64 {n : Int} (h0 : 0 ≤ n) (h1 : n < 340282366920938463463374607431768211456) : U64 (isq n) := by
  have := isq_nonneg n
  have := isq_lt h0 h1 (b := 18446744073709551616) (by omega) (by omega)
  unfold U64; omega

/-- What stands at the head of each round of the loop: k bits are still to come. -/
def bitOf (k : Nat) : Int := if k = 0 then 0 else ((2 ^ (k - 1) : Nat) : Int)
def RInv (n : Nat) (k : Nat) (r b : Int) : Prop :=
  k ≤ 64 ∧ b = bitOf k ∧ 0 ≤ r ∧ r.toNat % 2 ^ k = 0 ∧ r.toNat + 2 ^ k ≤ 18446744073709551616 ∧ (rootB k r.toNat n : Int) = isq n
theorem rinv_start (n : Nat) : RInv n 64 0 9223372036854775808 := by
  refine ⟨by omega, by decide, by omega, by simp, by simp, ?_⟩
  unfold isq; simp
theorem bitOf_half (k : Nat) : bitOf (k + 1) / 2 = bitOf k := by
  unfold bitOf
  rw [if_neg (by omega)]
  cases k with
  | zero => decide
  | succ k =>
    rw [if_neg (by omega)]
    show ((2 ^ (k + 1) : Nat) : Int) / 2 = ((2 ^ k : Nat) : Int)
    rw [Nat.pow_succ]; omega
theorem bitOf_pos (k : Nat) : 0 < bitOf (k + 1) := by
  unfold bitOf; rw [if_neg (by omega)]; have := Nat.two_pow_pos (k + 1 - 1); omega
theorem bitOf_zero : bitOf 0 = 0 := rfl
theorem rinv_end {n : Nat} {r b : Int} (h : RInv n 0 r b) : r = isq n := by
  obtain ⟨_, _, h3, _, _, h6⟩ := h
  rw [← h6]; simp only [rootB]; omega
/-- One bit more: what it is to try, and what becomes of it. -/
theorem rinv_or {n k : Nat} {r b : Int} (h : RInv n (k + 1) r b) :
    bits .or .u64 r b = r + b ∧ U64 (r + b) ∧ b = ((2 ^ k : Nat) : Int) ∧ 0 < b := by
  obtain ⟨h1, h2, h3, h4, h5, h6⟩ := h
  have hb : b = ((2 ^ k : Nat) : Int) := by rw [h2]; unfold bitOf; rw [if_neg (by omega)]; rfl
  obtain ⟨r, rfl⟩ := Int.eq_ofNat_of_zero_le h3
  simp only [Int.toNat_natCast] at *
  have p := Nat.two_pow_pos k
  rw [Nat.pow_succ] at h5
  refine ⟨?_, ?_, hb, by omega⟩
  · rw [hb, bits_or_u64_nat _ _ (by omega) (by omega)]
    have e : r = 2 ^ (k + 1) * (r / 2 ^ (k + 1)) := by
      have := Nat.div_add_mod r (2 ^ (k + 1)); rw [h4] at this; omega
    have := Nat.two_pow_add_eq_or_of_lt (i := k + 1) (b := 2 ^ k) (by rw [Nat.pow_succ]; omega) (r / 2 ^ (k + 1))
    rw [← e] at this
    rw [← this]; omega
  · unfold U64; omega
theorem rinv_yes {n k : Nat} {r b : Int} (h : RInv n (k + 1) r b) (c : (r + b) * (r + b) ≤ n) : RInv n k (r + b) (b / 2) := by
  obtain ⟨_, _, hb, hp⟩ := rinv_or h
  obtain ⟨h1, h2, h3, h4, h5, h6⟩ := h
  obtain ⟨r, rfl⟩ := Int.eq_ofNat_of_zero_le h3
  simp only [Int.toNat_natCast] at *
  have e : ((r : Int) + b).toNat = r + 2 ^ k := by omega
  have c' : (r + 2 ^ k) * (r + 2 ^ k) ≤ n := by
    have : ((r : Int) + b) = ((r + 2 ^ k : Nat) : Int) := by omega
    rw [this] at c; exact_mod_cast c
  rw [rootB, if_pos c'] at h6
  rw [Nat.pow_succ] at h5 h4
  refine ⟨by omega, by rw [h2, bitOf_half], by omega, ?_, by rw [e]; omega, by rw [e]; exact h6⟩
  rw [e, Nat.add_mod_right]
  have : r % 2 ^ k = r % (2 ^ k * 2) % 2 ^ k := (Nat.mod_mul_right_mod r (2 ^ k) 2).symm
  rw [this, h4]; simp
theorem rinv_no {n k : Nat} {r b : Int} (h : RInv n (k + 1) r b) (c : ¬ (r + b) * (r + b) ≤ n) : RInv n k r (b / 2) := by
  obtain ⟨_, _, hb, hp⟩ := rinv_or h
  obtain ⟨h1, h2, h3, h4, h5, h6⟩ := h
  obtain ⟨r, rfl⟩ := Int.eq_ofNat_of_zero_le h3
  simp only [Int.toNat_natCast] at *
  have c' : ¬ (r + 2 ^ k) * (r + 2 ^ k) ≤ n := by
    have : ((r : Int) + b) = ((r + 2 ^ k : Nat) : Int) := by omega
    rw [this] at c; exact_mod_cast c
  rw [rootB, if_neg c'] at h6
  rw [Nat.pow_succ] at h5 h4
  refine ⟨by omega, by rw [h2, bitOf_half], by omega, ?_, by simp only [Int.toNat_natCast]; omega, h6⟩
  simp only [Int.toNat_natCast]
  have : r % 2 ^ k = r % (2 ^ k * 2) % 2 ^ k := (Nat.mod_mul_right_mod r (2 ^ k) 2).symm
  rw [this, h4]; simp

def sqrtR (a : Int) : Int × Int := if a < 0 then (0, 9) else (isq (a * 4294967296), 0)
def lenR (x y : Int) : Int × Int :=
  if 9223372036854775808 ≤ isq (absF x * absF x + absF y * absF y) then (0, 3) else (isq (absF x * absF x + absF y * absF y), 0)
end M
end Go.Proofs.Ytcaibieaobhheaa
