/- Directions and lengths: the plain law. -/
import Derived.Test.YtcaibieaobhheaaPlain
namespace Go.Proofs.Ytcaibieaobhheaa
open Go.RowKit M
set_option linter.unusedVariables false
namespace M
theorem absF_mul (a : Int) : absF a * absF a = a * a := by
  unfold absF; split
  · rw [Int.neg_mul_neg]
  · rfl
theorem le_absF (a : Int) : a ≤ absF a ∧ -a ≤ absF a := by unfold absF; split <;> omega
theorem addX_in {a b : Int} (h : I64 (a + b)) : addX a b = .ok (a + b) := by unfold addX; rw [addR_in h]; rfl
theorem subX_in {a b : Int} (h : I64 (a - b)) : subX a b = .ok (a - b) := by unfold subX; rw [subR_in h]; rfl
theorem mulX_zero (a : Int) : mulX a 0 = .ok 0 := by unfold mulX; rw [mulR_zero]; rfl
theorem mulX_comm (a b : Int) : mulX a b = mulX b a := by unfold mulX; rw [mulR_comm]
theorem zero_mulX (a : Int) : mulX 0 a = .ok 0 := by rw [mulX_comm]; exact mulX_zero a
theorem mulX_one {a : Int} (h : I64 a) : mulX a 4294967296 = .ok a := by unfold mulX; rw [mulR_one h]; rfl
theorem one_mulX {a : Int} (h : I64 a) : mulX 4294967296 a = .ok a := by rw [mulX_comm]; exact mulX_one h
theorem divX_one {a : Int} (h : I64 a) : divX a 4294967296 = .ok a := by unfold divX; rw [divR_one h]; rfl

/-- A signed quotient. -/
def sq (a q : Int) : Int := if a < 0 then -q else q
/-- A quotient by a positive number that fits. -/
theorem divX_pos {a n : Int} (hn : 0 < n) (h : absF a * 4294967296 / n ≤ 9223372036854775807) : divX a n = .ok (sq a (absF a * 4294967296 / n)) := by
  have h0 : 0 ≤ absF a * 4294967296 / n := Int.ediv_nonneg (Int.mul_nonneg (absF_nonneg a) (by omega)) (by omega)
  unfold divX divR
  rw [if_neg (by omega), absF_of_nonneg (a := n) (by omega)]
  have hb : decide (n < 0) = false := decide_eq_false (by omega)
  rw [hb]
  generalize absF a * 4294967296 / n = q at *
  unfold sq
  by_cases h : a < 0
  · rw [wholeR_signed (l := decide (a < 0) != false) (x := -q) (by unfold I64; omega) (by simp [h]) h0, if_pos h]; rfl
  · rw [wholeR_signed (l := decide (a < 0) != false) (x := q) (by unfold I64; omega) (by simp [h]) h0, if_neg h]; rfl
/-- A product that fits. -/
theorem mulX_fit {a b : Int} (h : absF a * absF b / 4294967296 ≤ 9223372036854775807) :
    mulX a b = .ok (if (decide (a < 0) != decide (b < 0)) = true then -(absF a * absF b / 4294967296) else absF a * absF b / 4294967296) := by
  have h0 : 0 ≤ absF a * absF b / 4294967296 := Int.ediv_nonneg (Int.mul_nonneg (absF_nonneg a) (absF_nonneg b)) (by omega)
  unfold mulX mulR
  generalize absF a * absF b / 4294967296 = q at *
  cases hc : (decide (a < 0) != decide (b < 0))
  · rw [wholeR_signed (x := q) (by unfold I64; omega) (by simp) h0]; rfl
  · rw [wholeR_signed (x := -q) (by unfold I64; omega) (by simp) h0]; rfl

/-- The length of a place: of its squares the whole root. -/
def nrm (d : V) : Int := isq (absF d.1 * absF d.1 + absF d.2 * absF d.2)
def Near (d : V) (B : Int) : Prop := -B ≤ d.1 ∧ d.1 ≤ B ∧ -B ≤ d.2 ∧ d.2 ≤ B
theorem sq_of_near {x B : Int} (h1 : -B ≤ x) (h2 : x ≤ B) : 0 ≤ absF x * absF x ∧ absF x * absF x ≤ B * B := by
  have h : 0 ≤ absF x := absF_nonneg x
  have h3 : absF x ≤ B := by unfold absF; split <;> omega
  exact ⟨Int.mul_nonneg h h, Int.mul_le_mul h3 h3 h (by omega)⟩
theorem nrm_spec {d : V} (h : Near d 4611686018427387904) : 0 ≤ nrm d ∧ nrm d * nrm d ≤ absF d.1 * absF d.1 + absF d.2 * absF d.2 ∧ absF d.1 * absF d.1 + absF d.2 * absF d.2 < (nrm d + 1) * (nrm d + 1) ∧ nrm d < 9223372036854775808 := by
  obtain ⟨a, b, c, e⟩ := h
  have p := sq_of_near a b
  have q := sq_of_near c e
  obtain ⟨x, y⟩ := isq_spec (n := absF d.1 * absF d.1 + absF d.2 * absF d.2) (by omega) (by omega)
  exact ⟨isq_nonneg _, x, y, isq_lt (by omega) (by omega) (by omega) (by omega)⟩
theorem nrm_ge {d : V} (h : Near d 4611686018427387904) : absF d.1 ≤ nrm d ∧ absF d.2 ≤ nrm d := by
  obtain ⟨a, b, c, e⟩ := nrm_spec h
  have h1 : 0 ≤ absF d.1 * absF d.1 := Int.mul_nonneg (absF_nonneg _) (absF_nonneg _)
  have h2 : 0 ≤ absF d.2 * absF d.2 := Int.mul_nonneg (absF_nonneg _) (absF_nonneg _)
  have k1 := sq_lt (a := absF d.1) (b := nrm d + 1) (by omega) (by omega)
  have k2 := sq_lt (a := absF d.2) (b := nrm d + 1) (by omega) (by omega)
  omega
theorem nrm_zero {d : V} (h : Near d 4611686018427387904) (h0 : nrm d = 0) : d = (0, 0) := by
  obtain ⟨a, b⟩ := nrm_ge h
  have k1 := le_absF d.1
  have k2 := le_absF d.2
  obtain ⟨x, y⟩ := d
  dsimp only at *
  rw [show x = 0 by omega, show y = 0 by omega]
theorem nrm_00 : nrm (0, 0) = 0 := by
  have := isq_unique (n := 0) (r := 0) (by omega) (by omega) (by omega) (by omega) (by omega)
  unfold nrm; exact this
theorem lenX_near {d : V} (h : Near d 4611686018427387904) : lenX d.1 d.2 = .ok (nrm d) := by
  obtain ⟨a, b, c, e⟩ := nrm_spec h
  unfold lenX lenR
  show liftR (if 9223372036854775808 ≤ nrm d then (0, 3) else (nrm d, 0)) = _
  rw [if_neg (by omega)]; rfl
/-- One side of a direction. -/
def uI (a n : Int) : Int := sq a (absF a * 4294967296 / n)
theorem uI_bounds {a n : Int} (hn : 0 < n) (h : absF a ≤ n) : -4294967296 ≤ uI a n ∧ uI a n ≤ 4294967296 := by
  have h0 : 0 ≤ absF a * 4294967296 / n := Int.ediv_nonneg (Int.mul_nonneg (absF_nonneg a) (by omega)) (by omega)
  have h1 : absF a * 4294967296 / n < 4294967297 := Int.ediv_lt_of_lt_mul hn (by omega)
  unfold uI sq; split <;> omega
theorem uI_neg {a n : Int} : uI (-a) n = -uI a n := by
  unfold uI sq
  rw [absF_neg]
  by_cases h : a < 0
  · rw [if_pos h, if_neg (by omega)]; omega
  · rw [if_neg h]
    by_cases h0 : a = 0
    · subst h0; simp [absF]
    · rw [if_pos (by omega)]
theorem divX_uI {a n : Int} (hn : 0 < n) (h : absF a ≤ n) : divX a n = .ok (uI a n) := by
  have h1 : absF a * 4294967296 / n < 4294967297 := Int.ediv_lt_of_lt_mul hn (by omega)
  exact divX_pos hn (by omega)
def uV (d : V) : V := if nrm d = 0 then (0, 0) else (uI d.1 (nrm d), uI d.2 (nrm d))
theorem unitX_near {d : V} (h : Near d 4611686018427387904) : unitX d = .ok (uV d, nrm d) := by
  have k := nrm_spec h
  have g := nrm_ge h
  unfold unitX uV
  rw [lenX_near h, andThen_ok]
  by_cases h0 : nrm d = 0
  · rw [if_pos h0, if_pos h0, h0]
  · rw [if_neg h0, if_neg h0]
    unfold overV
    rw [divX_uI (by omega) g.1, andThen_ok, divX_uI (by omega) g.2]; rfl
theorem nrm_neg (d : V) : nrm (-d.1, -d.2) = nrm d := by unfold nrm; simp only [absF_neg]
theorem uV_neg (d : V) : uV (-d.1, -d.2) = (-(uV d).1, -(uV d).2) := by
  unfold uV; rw [nrm_neg]
  split
  · simp
  · simp only [uI_neg]
end M
end Go.Proofs.Ytcaibieaobhheaa
