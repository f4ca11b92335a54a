/- Plain mathematics of the numbers of 32 bits behind the point: no program in sight. -/
import Derived.WalkKit
import Derived.OpenShut
import Derived.Deep.Draws
namespace Go.Proofs.Ytcaibieaobhheaa
open Go.RowKit
namespace M
set_option linter.unusedVariables false

def I64 (x : Int) : Prop := -9223372036854775808 ≤ x ∧ x ≤ 9223372036854775807
def U64 (x : Int) : Prop := 0 ≤ x ∧ x ≤ 18446744073709551615
theorem i64_lit {x : Int} (h : decide (-9223372036854775808 ≤ x ∧ x ≤ 9223372036854775807) = true) : I64 x := by
  have := of_decide_eq_true h; exact this
theorem i64_wf {x : Int} (h : (Lit.int .i64 x).wf = true) : I64 x := bounds_i64 h
theorem u64_wf {x : Int} (h : (Lit.int .u64 x).wf = true) : U64 x := bounds_u64 h

theorem wrap64_id {x : Int} (h : I64 x) : wrap64 x = x := by unfold I64 at h; unfold wrap64; omega
theorem i64w_id {x : Int} (h : I64 x) : IntKind.i64.wrap x = x := by unfold I64 at h; simp only [IntKind.wrap_i64]; omega
theorem u64_id {x : Int} (h : U64 x) : IntKind.u64.wrap x = x := by unfold U64 at h; simp only [IntKind.wrap_u64]; omega
theorem wrap64_i64 (x : Int) : I64 (wrap64 x) := by unfold I64 wrap64; omega
theorem u64_u64 (x : Int) : U64 (IntKind.u64.wrap x) := by unfold U64; simp only [IntKind.wrap_u64]; omega

/-! ### sign and size -/
def absF (a : Int) : Int := if a < 0 then -a else a
theorem wrap_neg_abs {a : Int} (h : I64 a) (hn : a < 0) : IntKind.u64.wrap (-(IntKind.u64.wrap a)) = absF a := by
  unfold I64 at h; unfold absF; rw [if_pos hn]
  simp only [IntKind.wrap_u64]; omega
theorem wrap_abs {a : Int} (h : I64 a) (hn : ¬ a < 0) : IntKind.u64.wrap a = absF a := by
  unfold I64 at h; unfold absF; rw [if_neg hn]
  simp only [IntKind.wrap_u64]; omega
theorem absF_nonneg (a : Int) : 0 ≤ absF a := by unfold absF; split <;> omega
theorem absF_le {a : Int} (h : I64 a) : absF a ≤ 9223372036854775808 := by unfold I64 at h; unfold absF; split <;> omega
theorem absF_u64 {a : Int} (h : I64 a) : U64 (absF a) := by
  have := absF_nonneg a; have := absF_le h; unfold U64; omega

/-! ### what the functions of fix answer: the number, and its Errno -/
def wholeR (less : Bool) (n : Int) : Int × Int :=
  if less then (if n ≤ 9223372036854775808 then (-n, 0) else (0, 3)) else (if n < 9223372036854775808 then (n, 0) else (0, 3))
def addR (a b : Int) : Int × Int := if -9223372036854775808 ≤ a + b ∧ a + b ≤ 9223372036854775807 then (a + b, 0) else (0, 3)
def subR (a b : Int) : Int × Int := if -9223372036854775808 ≤ a - b ∧ a - b ≤ 9223372036854775807 then (a - b, 0) else (0, 3)
def mulR (a b : Int) : Int × Int := wholeR (decide (a < 0) != decide (b < 0)) (absF a * absF b / 4294967296)
def divR (a b : Int) : Int × Int := if b = 0 then (0, 4) else wholeR (decide (a < 0) != decide (b < 0)) (absF a * 4294967296 / absF b)
def ofR (n : Int) : Int × Int := if -2147483648 ≤ n ∧ n ≤ 2147483647 then (n * 4294967296, 0) else (0, 3)

theorem wholeR_less {n : Int} (h : U64 n) (hn : n ≤ 9223372036854775808) : wrap64 (IntKind.u64.wrap (-n)) = (wholeR true n).1 := by
  unfold U64 at h; simp only [wholeR, if_true, if_pos hn, wrap64, IntKind.wrap_u64]; omega
theorem wholeR_less0 {n : Int} (hn : n ≤ 9223372036854775808) : 0 = (wholeR true n).2 := by simp [wholeR, hn]
theorem wholeR_more {n : Int} (h : U64 n) (hn : n < 9223372036854775808) : wrap64 n = (wholeR false n).1 := by
  unfold U64 at h; simp only [wholeR, Bool.false_eq_true, if_false, if_pos hn, wrap64]; omega
theorem wholeR_more0 {n : Int} (hn : n < 9223372036854775808) : 0 = (wholeR false n).2 := by simp [wholeR, hn]
theorem wholeR_less3 {n : Int} (hn : ¬ n ≤ 9223372036854775808) : wholeR true n = (0, 3) := by simp [wholeR, hn]
theorem wholeR_more3 {n : Int} (hn : ¬ n < 9223372036854775808) : wholeR false n = (0, 3) := by simp [wholeR, hn]
theorem wholeR_great {l : Bool} {n : Int} (hn : 18446744073709551616 ≤ n) : wholeR l n = (0, 3) := by
  cases l
  · exact wholeR_more3 (by omega)
  · exact wholeR_less3 (by omega)

theorem wholeR_i64 (l : Bool) {n : Int} (h : 0 ≤ n) : I64 (wholeR l n).1 := by
  unfold I64 wholeR; cases l <;> simp <;> split <;> simp_all <;> omega
theorem addR_i64 (a b : Int) : I64 (addR a b).1 := by unfold I64 addR; split <;> simp <;> omega
theorem subR_i64 (a b : Int) : I64 (subR a b).1 := by unfold I64 subR; split <;> simp <;> omega
theorem mulR_i64 (a b : Int) : I64 (mulR a b).1 := by
  unfold mulR; refine wholeR_i64 _ (Int.ediv_nonneg (Int.mul_nonneg (absF_nonneg a) (absF_nonneg b)) (by omega))
theorem divR_i64 (a b : Int) : I64 (divR a b).1 := by
  unfold divR; split
  · unfold I64; simp
  · exact wholeR_i64 _ (Int.ediv_nonneg (Int.mul_nonneg (absF_nonneg a) (by omega)) (absF_nonneg b))
theorem ofR_i64 (n : Int) : I64 (ofR n).1 := by unfold I64 ofR; split <;> simp <;> omega
theorem wholeR_err (l : Bool) (n : Int) : (wholeR l n).2 = 0 ∨ (wholeR l n) = (0, 3) := by unfold wholeR; cases l <;> simp <;> split <;> simp_all <;> omega

theorem add_1 {a b : Int} (ha : I64 a) (hb : I64 b) (_h1 : a < 0 ↔ b < 0) (h2 : (!decide (wrap64 (a + b) < 0) == decide (b < 0)) = true) : addR a b = (0, 3) := by
  unfold I64 at ha hb; simp at h2; simp only [wrap64] at h2; unfold addR; rw [if_neg (by omega)]
theorem add_2 {a b : Int} (ha : I64 a) (hb : I64 b) (h1 : a < 0 ↔ b < 0) (h2 : (!decide (wrap64 (a + b) < 0) == decide (b < 0)) = false) : addR a b = (wrap64 (a + b), 0) := by
  unfold I64 at ha hb; simp at h2; simp only [wrap64] at *; unfold addR; rw [if_pos (by omega)]; congr 1; omega
theorem add_3 {a b : Int} (ha : I64 a) (hb : I64 b) (h1 : ¬ (a < 0 ↔ b < 0)) : addR a b = (wrap64 (a + b), 0) := by
  unfold I64 at ha hb; simp only [wrap64] at *; unfold addR; rw [if_pos (by omega)]; congr 1; omega

theorem sub_1 {a b : Int} (ha : I64 a) (hb : I64 b) (h1 : a < 0 ↔ b < 0) : subR a b = (wrap64 (a - b), 0) := by
  unfold I64 at ha hb; simp only [wrap64] at *; unfold subR; rw [if_pos (by omega)]; congr 1; omega
theorem sub_2 {a b : Int} (ha : I64 a) (hb : I64 b) (h1 : ¬ (a < 0 ↔ b < 0)) (h2 : (!decide (a < 0) == decide (b < 0)) = true ∧ (!decide (wrap64 (a - b) < 0) == decide (a < 0)) = true) : subR a b = (0, 3) := by
  unfold I64 at ha hb; simp at h2; simp only [wrap64] at h2; unfold subR; rw [if_neg (by omega)]
theorem sub_3 {a b : Int} (ha : I64 a) (hb : I64 b) (h1 : ¬ (a < 0 ↔ b < 0)) (h2 : (!decide (a < 0) == decide (b < 0)) = false ∨ (!decide (wrap64 (a - b) < 0) == decide (a < 0)) = false) : subR a b = (wrap64 (a - b), 0) := by
  unfold I64 at ha hb; simp at h2; simp only [wrap64] at *; unfold subR; rw [if_pos (by omega)]; congr 1; omega
theorem mul_great {a b : Int} (h : 4294967296 ≤ absF a * absF b / 18446744073709551616) : mulR a b = (0, 3) := by
  unfold mulR; exact wholeR_great (by omega)
theorem absF_zero {b : Int} : (absF b == 0) = (b == 0) := by
  rw [Bool.eq_iff_iff]; simp only [beq_iff_eq]; unfold absF; split <;> omega
theorem div_zero {a b : Int} (h : (absF b == 0) = true) : divR a b = (0, 4) := by
  rw [absF_zero, beq_iff_eq] at h; unfold divR; rw [if_pos h]
theorem div_great {a b : Int} (h : (absF b == 0) = false) (h2 : absF b ≤ absF a / 4294967296) : divR a b = (0, 3) := by
  have hb : 0 < absF b := by
    have := absF_nonneg b; rw [beq_eq_false_iff_ne] at h; omega
  rw [absF_zero, beq_eq_false_iff_ne] at h; unfold divR; rw [if_neg h]
  refine wholeR_great ((Int.le_ediv_iff_mul_le hb).2 ?_)
  omega
theorem div_low {a b : Int} (ha : I64 a) (h : (absF b == 0) = false) :
    divR a b = wholeR (!decide (a < 0) == decide (b < 0)) ((absF a / 4294967296 * 18446744073709551616 + IntKind.u64.wrap (absF a * 4294967296)) / absF b) := by
  rw [absF_zero, beq_eq_false_iff_ne] at h; unfold divR; rw [if_neg h]
  have h1 := absF_nonneg a
  have e : absF a / 4294967296 * 18446744073709551616 + IntKind.u64.wrap (absF a * 4294967296) = absF a * 4294967296 := by
    simp only [IntKind.wrap_u64]; omega
  rw [e]; rfl
theorem div_u64 {a b : Int} (ha : I64 a) (h : (absF b == 0) = false) (h2 : absF a / 4294967296 < absF b) :
    U64 ((absF a / 4294967296 * 18446744073709551616 + IntKind.u64.wrap (absF a * 4294967296)) / absF b) := by
  have hb : 0 < absF b := by
    have := absF_nonneg b; rw [beq_eq_false_iff_ne] at h; omega
  have h1 := absF_nonneg a
  have k : U64 (IntKind.u64.wrap (absF a * 4294967296)) := u64_u64 _
  unfold U64 at k
  have := Int.ediv_nonneg (a := absF a / 4294967296 * 18446744073709551616 + IntKind.u64.wrap (absF a * 4294967296)) (b := absF b) (by omega) (by omega)
  have := Int.ediv_lt_of_lt_mul (a := absF a / 4294967296 * 18446744073709551616 + IntKind.u64.wrap (absF a * 4294967296)) (b := 18446744073709551616) hb (by omega)
  unfold U64; omega
theorem of_1 {n : Int} (h : n < -2147483648 ∨ 2147483647 < n) : ofR n = (0, 3) := by unfold ofR; rw [if_neg (by omega)]
theorem of_2 {n : Int} (h : ¬ (n < -2147483648 ∨ 2147483647 < n)) : ofR n = (n * 4294967296, 0) := by
  unfold ofR; rw [if_pos (by omega)]

theorem wholeR_ok {l : Bool} {n : Int} (h : (wholeR l n).2 = 0) : wholeR l n = (if l then -n else n, 0) := by
  revert h; unfold wholeR; cases l <;> simp <;> split <;> simp_all
theorem addR_err (a b : Int) : (addR a b).2 = 0 ∨ addR a b = (0, 3) := by unfold addR; split <;> simp
theorem subR_err (a b : Int) : (subR a b).2 = 0 ∨ subR a b = (0, 3) := by unfold subR; split <;> simp
theorem mulR_err (a b : Int) : (mulR a b).2 = 0 ∨ mulR a b = (0, 3) := wholeR_err _ _
theorem divR_err {a b : Int} (h0 : ¬ b = 0) : (divR a b).2 = 0 ∨ divR a b = (0, 3) := by
  unfold divR; rw [if_neg h0]; exact wholeR_err _ _
theorem addR_ok {a b : Int} (h : (addR a b).2 = 0) : addR a b = (a + b, 0) ∧ I64 (a + b) := by
  revert h; unfold addR I64; split <;> simp; assumption
theorem subR_ok {a b : Int} (h : (subR a b).2 = 0) : subR a b = (a - b, 0) ∧ I64 (a - b) := by
  revert h; unfold subR I64; split <;> simp; assumption
theorem addR_in {a b : Int} (h : I64 (a + b)) : addR a b = (a + b, 0) := by unfold I64 at h; unfold addR; rw [if_pos h]
theorem subR_in {a b : Int} (h : I64 (a - b)) : subR a b = (a - b, 0) := by unfold I64 at h; unfold subR; rw [if_pos h]
theorem addR_comm (a b : Int) : addR a b = addR b a := by unfold addR; rw [Int.add_comm]
theorem mulR_comm (a b : Int) : mulR a b = mulR b a := by
  unfold mulR; rw [Int.mul_comm]
  have : (decide (a < 0) != decide (b < 0)) = (decide (b < 0) != decide (a < 0)) := by cases decide (a < 0) <;> cases decide (b < 0) <;> rfl
  rw [this]
theorem mulR_zero (a : Int) : mulR a 0 = (0, 0) := by
  unfold mulR wholeR; simp [absF]
theorem absF_of_nonneg {a : Int} (h : 0 ≤ a) : absF a = a := by unfold absF; rw [if_neg (by omega)]
theorem absF_of_neg {a : Int} (h : a < 0) : absF a = -a := by unfold absF; rw [if_pos h]
theorem absF_neg (a : Int) : absF (-a) = absF a := by unfold absF; split <;> split <;> omega
/-- A whole number of a sign and a size, as the number itself. -/
theorem wholeR_signed {l : Bool} {n x : Int} (hx : I64 x) (h : x = if l then -n else n) (hn : 0 ≤ n) : wholeR l n = (x, 0) := by
  unfold I64 at hx; unfold wholeR; cases l
  · simp at h; simp; rw [if_pos (by omega)]; simp [h]
  · simp at h; simp; rw [if_pos (by omega)]; simp [h]
theorem mulR_one {a : Int} (ha : I64 a) : mulR a 4294967296 = (a, 0) := by
  unfold mulR
  refine wholeR_signed ha ?_ ?_
  · by_cases h : a < 0
    · rw [absF_of_neg h, absF_of_nonneg (by omega)]; simp [h] <;> omega
    · rw [absF_of_nonneg (by omega), absF_of_nonneg (by omega)]; simp [h]
  · exact Int.ediv_nonneg (Int.mul_nonneg (absF_nonneg _) (absF_nonneg _)) (by omega)
theorem divR_one {a : Int} (ha : I64 a) : divR a 4294967296 = (a, 0) := by
  unfold divR; rw [if_neg (by omega)]
  refine wholeR_signed ha ?_ ?_
  · by_cases h : a < 0
    · rw [absF_of_neg h, absF_of_nonneg (by omega)]; simp [h]
    · rw [absF_of_nonneg (by omega), absF_of_nonneg (by omega)]; simp [h]
  · exact Int.ediv_nonneg (Int.mul_nonneg (absF_nonneg _) (by omega)) (absF_nonneg _)

/-! ### the ends of walks -/
theorem r1 {k : IntKind} {a b : Int} (h : a = b) : Ending.returned (.int k a) = .returned (.int k b) := by rw [h]
theorem rb {p q : Bool} (h : p = q) : Ending.returned (.bool p) = .returned (.bool q) := by rw [h]
theorem rp {k l : IntKind} {a c : Int} {p : Int × Int} (h : p = (a, c)) : Ending.returned (.tuple #[.int k a, .int l c]) = .returned (.tuple #[.int k p.1, .int l p.2]) := by rw [h]
theorem r2 {k l : IntKind} {a b c d : Int} (h1 : a = b) (h2 : c = d) : Ending.returned (.tuple #[.int k a, .int l c]) = .returned (.tuple #[.int k b, .int l d]) := by rw [h1, h2]
theorem rb2 {l : IntKind} {p q : Bool} {c d : Int} (h1 : p = q) (h2 : c = d) : Ending.returned (.tuple #[.bool p, .int l c]) = .returned (.tuple #[.bool q, .int l d]) := by rw [h1, h2]
theorem r3 {k l m : IntKind} {a b c d e f : Int} (h1 : a = b) (h2 : c = d) (h3 : e = f) : Ending.returned (.tuple #[.int k a, .int l c, .int m e]) = .returned (.tuple #[.int k b, .int l d, .int m f]) := by rw [h1, h2, h3]

/-- The world has only drawn. -/
def Dr (w w' : World) : Prop := ∃ n, w' = w.drewN n
theorem Dr.refl (w : World) : Dr w w := ⟨0, rfl⟩
theorem Dr.step {w w' : World} (h : Dr w w') (n : Nat) : Dr w (w'.drewN n) := by
  obtain ⟨m, rfl⟩ := h; exact ⟨m + n, by simp⟩
theorem Dr.drew {w w' : World} (h : Dr w w') : Dr w w'.drew := h.step 1
theorem Grown.drewN {W w' : World} (h : Grown W w') (n : Nat) : Grown W (w'.drewN n) := h
theorem Dr.grown {w w' : World} (h : Dr w w') : Grown w w' := by
  obtain ⟨m, rfl⟩ := h; exact Grown.drewN (Grown.refl w) m
end M
end Go.Proofs.Ytcaibieaobhheaa
