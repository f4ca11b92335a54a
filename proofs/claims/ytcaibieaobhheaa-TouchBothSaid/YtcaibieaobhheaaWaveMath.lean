/- Sines and cosines: the plain law. -/
import Derived.Test.YtcaibieaobhheaaMath
namespace Go.Proofs.Ytcaibieaobhheaa
open Go.RowKit M
set_option linter.unusedVariables false
namespace M
theorem Grown.trans {a b c : World} (h : Grown a b) (k : Grown b c) : Grown a c :=
  ⟨World.keptBut_trans h.1 (World.keptBut_mono (fun _ f => f.elim) k.1), fun x => (k.2.1 x).trans (h.2.1 x), Nat.le_trans h.2.2 k.2.2⟩

/-- A sine up to half a turn: n from 0 to 32768. -/
def sinP (n : Int) : Int := 16 * (n * (32768 - n)) * 4294967296 / (5368709120 - 4 * (n * (32768 - n)))
def sinN (n : Int) : Int := if 32768 < n then -sinP (n - 32768) else sinP n
def sinR (a : Int) : Int := sinN (a % 65536)
def cosR (a : Int) : Int := sinR (a % 65536 + 16384)

theorem quad {n : Int} (h0 : 0 ≤ n) (h1 : n ≤ 32768) : 0 ≤ n * (32768 - n) ∧ n * (32768 - n) ≤ 268435456 := by
  refine ⟨Int.mul_nonneg h0 (by omega), ?_⟩
  have h : 0 ≤ (n - 16384) * (n - 16384) := by
    by_cases h : 0 ≤ n - 16384
    · exact Int.mul_nonneg h h
    · have := Int.mul_nonneg (show 0 ≤ -(n - 16384) by omega) (show 0 ≤ -(n - 16384) by omega)
      rwa [Int.neg_mul_neg] at this
  have e1 : (n - 16384) * (n - 16384) = n * n - 32768 * n + 268435456 := by
    rw [Int.sub_mul, Int.mul_sub, Int.mul_sub]; omega
  have e2 : n * (32768 - n) = 32768 * n - n * n := by rw [Int.mul_sub]; omega
  omega
theorem sinP_bounds {n : Int} (h0 : 0 ≤ n) (h1 : n ≤ 32768) : 0 ≤ sinP n ∧ sinP n ≤ 4294967296 := by
  obtain ⟨q0, q1⟩ := quad h0 h1
  unfold sinP
  generalize n * (32768 - n) = q at *
  refine ⟨Int.ediv_nonneg (by omega) (by omega), ?_⟩
  have : 16 * q * 4294967296 / (5368709120 - 4 * q) < 4294967297 := Int.ediv_lt_of_lt_mul (by omega) (by rw [Int.mul_sub]; omega)
  omega
theorem sinN_bounds {n : Int} (h0 : 0 ≤ n) (h1 : n < 65536) : -4294967296 ≤ sinN n ∧ sinN n ≤ 4294967296 := by
  unfold sinN
  split
  · have := sinP_bounds (n := n - 32768) (by omega) (by omega); omega
  · have := sinP_bounds (n := n) (by omega) (by omega); omega
theorem sinR_bounds (a : Int) : -4294967296 ≤ sinR a ∧ sinR a ≤ 4294967296 := sinN_bounds (by omega) (by omega)
theorem sinR_i64 (a : Int) : I64 (sinR a) := by have := sinR_bounds a; unfold I64; omega
theorem cosR_i64 (a : Int) : I64 (cosR a) := sinR_i64 _
theorem sinR_mod (a : Int) : sinR (a % 65536) = sinR a := by unfold sinR; rw [Int.emod_emod]
theorem sinR_turn (a k : Int) : sinR (a + k * 65536) = sinR a := by unfold sinR; rw [show (a + k * 65536) % 65536 = a % 65536 by omega]
theorem cosR_turn (a k : Int) : cosR (a + k * 65536) = cosR a := by unfold cosR; rw [show (a + k * 65536) % 65536 = a % 65536 by omega]

/-- The first of two errors. -/
def firstE (e f : Int) : Int := if e = 0 then f else e
/-- A place turned by an angle: both sides, and what went wrong first. -/
def rotE (x y s c : Int) : Int :=
  firstE (firstE (firstE (firstE (firstE (mulR x c).2 (mulR y s).2) (subR (mulR x c).1 (mulR y s).1).2) (mulR x s).2) (mulR y c).2) (addR (mulR x s).1 (mulR y c).1).2
def rotR (x y a : Int) : Int × Int × Int :=
  if rotE x y (sinR a) (cosR a) = 0 then ((subR (mulR x (cosR a)).1 (mulR y (sinR a)).1).1, (addR (mulR x (sinR a)).1 (mulR y (cosR a)).1).1, 0)
  else (0, 0, rotE x y (sinR a) (cosR a))

/-! ### laws of sines -/
theorem sinP_mirror (n : Int) : sinP (32768 - n) = sinP n := by
  unfold sinP
  rw [show 32768 - (32768 - n) = n by omega, Int.mul_comm (32768 - n) n]
theorem sinP_0 : sinP 0 = 0 := by decide +kernel
theorem sinP_half : sinP 32768 = 0 := by decide +kernel
theorem sinR_in {n : Int} (h0 : 0 ≤ n) (h1 : n < 65536) : sinR n = sinN n := by unfold sinR; rw [show n % 65536 = n by omega]
theorem sinR_half (a : Int) : sinR (a + 32768) = -sinR a := by
  unfold sinR
  obtain ⟨n, h0, h1, e1, e2⟩ : ∃ n, 0 ≤ n ∧ n < 65536 ∧ a % 65536 = n ∧ (a + 32768) % 65536 = (if n < 32768 then n + 32768 else n - 32768) := by
    refine ⟨a % 65536, by omega, by omega, rfl, ?_⟩
    split <;> omega
  rw [e1, e2]
  unfold sinN
  by_cases h : n < 32768
  · rw [if_pos h]
    by_cases hz : n = 0
    · subst hz; simp [sinP_0, sinP_half]
    · rw [if_pos (by omega), if_neg (by omega), Int.add_sub_cancel]
  · rw [if_neg h, if_neg (by omega)]
    by_cases hz : n = 32768
    · subst hz; simp [sinP_0, sinP_half]
    · rw [if_pos (by omega), Int.neg_neg]
theorem sinR_mirror (a : Int) : sinR (32768 - a) = sinR a := by
  unfold sinR
  obtain ⟨n, h0, h1, e1, e2⟩ : ∃ n, 0 ≤ n ∧ n < 65536 ∧ a % 65536 = n ∧ (32768 - a) % 65536 = (if n ≤ 32768 then 32768 - n else 98304 - n) := by
    refine ⟨a % 65536, by omega, by omega, rfl, ?_⟩
    split <;> omega
  rw [e1, e2]
  unfold sinN
  by_cases h : n ≤ 32768
  · rw [if_pos h, if_neg (by omega), if_neg (by omega), sinP_mirror]
  · rw [if_neg h, if_pos (by omega), if_pos (by omega), ← sinP_mirror (n - 32768)]
    congr 2; omega
theorem sinR_odd (a : Int) : sinR (-a) = -sinR a := by
  have h := sinR_mirror (a + 32768)
  rw [show 32768 - (a + 32768) = -a by omega, sinR_half] at h
  exact h
theorem cosR_eq (a : Int) : cosR a = sinR (a + 16384) := by
  unfold cosR sinR; rw [show (a % 65536 + 16384) % 65536 = (a + 16384) % 65536 by omega]
theorem cosR_even (a : Int) : cosR (-a) = cosR a := by
  rw [cosR_eq, cosR_eq, ← sinR_mirror (a + 16384)]; congr 1; omega
theorem cosR_mirror (n : Int) : cosR (65536 - n) = cosR n := by
  rw [← cosR_even n, ← cosR_turn (-n) 1]; congr 1; omega

/-! ### how fast a sine rises -/
def sinQ (q : Int) : Int := 16 * q * 4294967296 / (5368709120 - 4 * q)
theorem sinP_Q (n : Int) : sinP n = sinQ (n * (32768 - n)) := rfl
theorem sinQ_bounds {q : Int} (q0 : 0 ≤ q) (q1 : q ≤ 268435456) : 0 ≤ sinQ q ∧ sinQ q ≤ 4294967296 := by
  unfold sinQ
  refine ⟨Int.ediv_nonneg (by omega) (by omega), ?_⟩
  have : 16 * q * 4294967296 / (5368709120 - 4 * q) < 4294967297 := Int.ediv_lt_of_lt_mul (by omega) (by rw [Int.mul_sub]; omega)
  omega
theorem sinQ_lt {q d : Int} (q0 : 0 ≤ q) (hd : 0 < d) (q1 : q + d ≤ 268435456) : sinQ q < sinQ (q + d) := by
  have b := sinQ_bounds q0 (by omega)
  have k : sinQ q * (5368709120 - 4 * q) ≤ 16 * q * 4294967296 := Int.ediv_mul_le _ (by omega)
  have : sinQ q + 1 ≤ sinQ (q + d) := by
    show sinQ q + 1 ≤ 16 * (q + d) * 4294967296 / (5368709120 - 4 * (q + d))
    rw [Int.le_ediv_iff_mul_le (by omega)]
    generalize sinQ q = s at *
    have m : s * (4 * d) ≥ 0 := Int.mul_nonneg b.1 (by omega)
    have e : (s + 1) * (5368709120 - 4 * (q + d)) = s * (5368709120 - 4 * q) - s * (4 * d) + (5368709120 - 4 * (q + d)) := by
      have : 5368709120 - 4 * (q + d) = (5368709120 - 4 * q) - 4 * d := by omega
      rw [Int.add_mul, Int.one_mul, this, Int.mul_sub]
    rw [e]; omega
  omega
theorem sinQ_near {q d : Int} (q0 : 0 ≤ q) (hd : 0 ≤ d) (q1 : q + d ≤ 268435456) : sinQ (q + d) ≤ sinQ q + 21 * d := by
  have b := sinQ_bounds q0 (by omega)
  have k : 16 * q * 4294967296 < (sinQ q + 1) * (5368709120 - 4 * q) := Int.lt_ediv_add_one_mul_self _ (by omega)
  have : 16 * (q + d) * 4294967296 / (5368709120 - 4 * (q + d)) < sinQ q + 1 + 21 * d := by
    refine Int.ediv_lt_of_lt_mul (by omega) ?_
    generalize sinQ q = s at *
    have m : (s + 1) * (4 * d) ≤ 4294967297 * (4 * d) := Int.mul_le_mul_of_nonneg_right (by omega) (by omega)
    have m2 : 21 * d * 4294967296 ≤ 21 * d * (5368709120 - 4 * (q + d)) := Int.mul_le_mul_of_nonneg_left (by omega) (by omega)
    have e : (s + 1 + 21 * d) * (5368709120 - 4 * (q + d)) = (s + 1) * (5368709120 - 4 * q) - (s + 1) * (4 * d) + 21 * d * (5368709120 - 4 * (q + d)) := by
      have : 5368709120 - 4 * (q + d) = (5368709120 - 4 * q) - 4 * d := by omega
      rw [Int.add_mul, this, Int.mul_sub (s + 1)]
    rw [e]; omega
  have : sinQ (q + d) = 16 * (q + d) * 4294967296 / (5368709120 - 4 * (q + d)) := rfl
  omega
/-- A step of one angle: what it does to n (32768 - n). -/
theorem quad_step (n : Int) : (n + 1) * (32768 - (n + 1)) = n * (32768 - n) + (32767 - 2 * n) := by
  rw [show (32768 : Int) - (n + 1) = (32768 - n) - 1 by omega, Int.add_mul, Int.mul_sub]; omega
theorem sinP_near {n : Int} (h0 : 0 ≤ n) (h1 : n < 32768) : sinP (n + 1) - sinP n ≤ 688107 ∧ -688107 ≤ sinP (n + 1) - sinP n := by
  have a := quad h0 (by omega)
  have b := quad (n := n + 1) (by omega) (by omega)
  rw [sinP_Q, sinP_Q, quad_step] at *
  generalize n * (32768 - n) = q at *
  by_cases h : 0 ≤ 32767 - 2 * n
  · have k := sinQ_near a.1 h b.2
    have : sinQ q ≤ sinQ (q + (32767 - 2 * n)) := by
      by_cases hz : 32767 - 2 * n = 0
      · rw [hz, Int.add_zero]; exact Int.le_refl _
      · have := sinQ_lt (d := 32767 - 2 * n) a.1 (by omega) b.2; omega
    omega
  · have k := sinQ_near (q := q + (32767 - 2 * n)) (d := 2 * n - 32767) b.1 (by omega) (by omega)
    have k2 := sinQ_lt (q := q + (32767 - 2 * n)) (d := 2 * n - 32767) b.1 (by omega) (by omega)
    rw [show q + (32767 - 2 * n) + (2 * n - 32767) = q by omega] at k k2
    omega
theorem sinR_near (a : Int) : sinR (a + 1) - sinR a ≤ 688107 ∧ -688107 ≤ sinR (a + 1) - sinR a := by
  unfold sinR
  obtain ⟨n, h0, h1, e1, e2⟩ : ∃ n, 0 ≤ n ∧ n < 65536 ∧ a % 65536 = n ∧ (a + 1) % 65536 = (if n = 65535 then 0 else n + 1) := by
    refine ⟨a % 65536, by omega, by omega, rfl, ?_⟩
    split <;> omega
  rw [e1, e2]
  by_cases hz : n = 65535
  · subst hz; decide +kernel
  rw [if_neg hz]
  unfold sinN
  by_cases h : 32768 < n
  · have := sinP_near (n := n - 32768) (by omega) (by omega)
    rw [if_pos (by omega), if_pos h, show n + 1 - 32768 = n - 32768 + 1 by omega]; omega
  · by_cases h2 : n = 32768
    · subst h2; decide +kernel
    · have := sinP_near (n := n) (by omega) (by omega)
      rw [if_neg (by omega), if_neg h]; omega
theorem cosR_near (a : Int) : cosR (a + 1) - cosR a ≤ 688107 ∧ -688107 ≤ cosR (a + 1) - cosR a := by
  rw [cosR_eq, cosR_eq, show a + 1 + 16384 = a + 16384 + 1 by omega]; exact sinR_near _
theorem sinP_rises {a b : Int} (h0 : 0 ≤ a) (h : a < b) (h1 : b ≤ 16384) : sinP a < sinP b := by
  have p := quad h0 (by omega)
  have q := quad (n := b) (by omega) (by omega)
  have e : b * (32768 - b) = a * (32768 - a) + (b - a) * (32768 - a - b) := by
    rw [Int.mul_sub, Int.mul_sub, Int.sub_mul, Int.mul_sub, Int.mul_sub, Int.mul_sub, Int.mul_sub, Int.mul_comm b a]; omega
  have d : 0 < (b - a) * (32768 - a - b) := Int.mul_pos (by omega) (by omega)
  rw [sinP_Q, sinP_Q, e]
  exact sinQ_lt p.1 d (by omega)
end M
end Go.Proofs.Ytcaibieaobhheaa
