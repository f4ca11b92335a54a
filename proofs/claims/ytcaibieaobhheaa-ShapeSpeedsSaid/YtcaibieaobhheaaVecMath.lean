/- Places and directions: the plain laws of chapters 6 and 7, and of two bodies that go towards one another. -/
import Derived.Test.YtcaibieaobhheaaPushMath
namespace Go.Proofs.Ytcaibieaobhheaa
open Go.RowKit M
set_option linter.unusedVariables false
namespace M
/-! ### how long a direction is -/
theorem mm4 (a b c d : Int) : a * b * (c * d) = a * c * (b * d) := by rw [Int.mul_assoc, Int.mul_left_comm b c d, ← Int.mul_assoc]
theorem unit_upper {A B n q1 q2 l N : Int} (hN : 0 ≤ N) (hn : 0 < n) (hl : 0 ≤ l) (h0 : A * A + B * B < (n + 1) * (n + 1)) (q0 : 0 ≤ q1) (q0' : 0 ≤ q2) (hA : 0 ≤ A) (hB : 0 ≤ B)
    (h1 : q1 * n ≤ A * N) (h2 : q2 * n ≤ B * N) (h3 : l * l ≤ q1 * q1 + q2 * q2) : l ≤ N + N / n := by
  have a1 : (q1 * n) * (q1 * n) ≤ (A * N) * (A * N) := Int.mul_le_mul h1 h1 (Int.mul_nonneg q0 (by omega)) (Int.mul_nonneg hA hN)
  have a2 : (q2 * n) * (q2 * n) ≤ (B * N) * (B * N) := Int.mul_le_mul h2 h2 (Int.mul_nonneg q0' (by omega)) (Int.mul_nonneg hB hN)
  have hnn : 0 ≤ n * n := Int.mul_nonneg (by omega) (by omega)
  have hNN : 0 ≤ N * N := Int.mul_nonneg hN hN
  have a3 : (l * l) * (n * n) ≤ (q1 * q1 + q2 * q2) * (n * n) := Int.mul_le_mul_of_nonneg_right h3 hnn
  have a4 : (A * A + B * B) * (N * N) ≤ ((n + 1) * (n + 1)) * (N * N) := Int.mul_le_mul_of_nonneg_right (by omega) hNN
  rw [mm4] at a1 a2
  rw [mm4 A N A N] at a1
  rw [mm4 B N B N] at a2
  rw [Int.add_mul] at a3 a4
  rw [mm4 (n + 1) (n + 1) N N] at a4
  rw [mm4 l l n n] at a3
  have a5 : (l * n) * (l * n) ≤ ((n + 1) * N) * ((n + 1) * N) := by omega
  have a6 : l * n ≤ (n + 1) * N := sq_le (Int.mul_nonneg (by omega) hN) a5
  have a7 : (l - N) * n ≤ N := by rw [Int.sub_mul]; rw [Int.add_mul, Int.one_mul, Int.mul_comm n N] at a6; omega
  have a8 := (Int.le_ediv_iff_mul_le hn).2 a7
  omega
theorem unit_lower {A B n q1 q2 l N : Int} (hN : 8 ≤ N) (hn : 0 < n) (h0 : n * n ≤ A * A + B * B) (q0 : 0 ≤ q1) (q0' : 0 ≤ q2) (hA : 0 ≤ A) (hB : 0 ≤ B)
    (h1 : A * N < (q1 + 1) * n) (h2 : B * N < (q2 + 1) * n) (hl : 0 ≤ l) (h3 : q1 * q1 + q2 * q2 < (l + 1) * (l + 1)) : N - 4 ≤ l := by
  apply Classical.byContradiction
  intro hc
  have a1 : (A * N) * (A * N) ≤ ((q1 + 1) * n) * ((q1 + 1) * n) := Int.mul_le_mul (by omega) (by omega) (Int.mul_nonneg hA (by omega)) (Int.mul_nonneg (by omega) (by omega))
  have a2 : (B * N) * (B * N) ≤ ((q2 + 1) * n) * ((q2 + 1) * n) := Int.mul_le_mul (by omega) (by omega) (Int.mul_nonneg hB (by omega)) (Int.mul_nonneg (by omega) (by omega))
  have hnn : 0 < n * n := Int.mul_pos hn hn
  have hNN : 0 ≤ N * N := Int.mul_nonneg (by omega) (by omega)
  have a3 : (n * n) * (N * N) ≤ (A * A + B * B) * (N * N) := Int.mul_le_mul_of_nonneg_right h0 hNN
  rw [mm4 A N A N, mm4 (q1 + 1) n (q1 + 1) n] at a1
  rw [mm4 B N B N, mm4 (q2 + 1) n (q2 + 1) n] at a2
  rw [Int.add_mul] at a3
  have a4 : (N * N) * (n * n) ≤ ((q1 + 1) * (q1 + 1) + (q2 + 1) * (q2 + 1)) * (n * n) := by rw [Int.add_mul, Int.mul_comm (N * N)]; omega
  have a5 : N * N ≤ (q1 + 1) * (q1 + 1) + (q2 + 1) * (q2 + 1) := Int.le_of_mul_le_mul_right a4 hnn
  have b1 : (q1 + 1) * (q1 + 1) = q1 * q1 + 2 * q1 + 1 := by rw [Int.add_mul, Int.mul_add]; omega
  have b2 : (q2 + 1) * (q2 + 1) = q2 * q2 + 2 * q2 + 1 := by rw [Int.add_mul, Int.mul_add]; omega
  have c1 : (l + 1) * (l + 1) ≤ (N - 4) * (N - 4) := Int.mul_le_mul (by omega) (by omega) (by omega) (by omega)
  have c2 : (N - 4) * (N - 4) = N * N - 8 * N + 16 := by rw [Int.sub_mul, Int.mul_sub]; omega
  have d1 : q1 < N - 4 := by
    refine sq_lt (by omega) ?_
    have : 0 ≤ q2 * q2 := Int.mul_nonneg q0' q0'
    omega
  have d2 : q2 < N - 4 := by
    refine sq_lt (by omega) ?_
    have : 0 ≤ q1 * q1 := Int.mul_nonneg q0 q0
    omega
  omega
theorem sq_absF {a q : Int} (h : 0 ≤ q) : absF (sq a q) = q := by unfold sq absF; split <;> split <;> omega
/-- VecUnits. -/
theorem unit_long {d : V} (h : Near d 1125899906842624) (h0 : d ≠ (0, 0)) :
    ∃ l, lenX (uV d).1 (uV d).2 = .ok l ∧ unitX d = .ok (uV d, nrm d) ∧ 0 < nrm d ∧ nrm d < 9223372036854775808 ∧ 0 ≤ l ∧ l ≤ 4294967296 + 4294967296 / nrm d ∧ 4294967292 ≤ l := by
  have h' : Near d 4611686018427387904 := by unfold Near at *; omega
  obtain ⟨k0, k1, k2, k3⟩ := nrm_spec h'
  have g := nrm_ge h'
  have hn : 0 < nrm d := by
    rcases Int.lt_or_eq_of_le k0 with h | h
    · exact h
    · exact absurd (nrm_zero h' h.symm) h0
  have ub := uV_bounds h'
  have hu : Near (uV d) 4611686018427387904 := by unfold Near; omega
  obtain ⟨l0, l1, l2, l3⟩ := nrm_spec hu
  refine ⟨_, lenX_near hu, unitX_near h', hn, k3, l0, ?_, ?_⟩
  all_goals
    have e : uV d = (uI d.1 (nrm d), uI d.2 (nrm d)) := by unfold uV; rw [if_neg (by omega)]
    have p1 : 0 ≤ absF d.1 * 4294967296 / nrm d := Int.ediv_nonneg (Int.mul_nonneg (absF_nonneg _) (by omega)) (by omega)
    have p2 : 0 ≤ absF d.2 * 4294967296 / nrm d := Int.ediv_nonneg (Int.mul_nonneg (absF_nonneg _) (by omega)) (by omega)
    have e1 : absF (uV d).1 = absF d.1 * 4294967296 / nrm d := by rw [e]; exact sq_absF p1
    have e2 : absF (uV d).2 = absF d.2 * 4294967296 / nrm d := by rw [e]; exact sq_absF p2
    rw [e1, e2] at l1 l2
  · exact unit_upper (by omega) hn l0 k2 p1 p2 (absF_nonneg _) (absF_nonneg _) (Int.ediv_mul_le _ (by omega)) (Int.ediv_mul_le _ (by omega)) l1
  · have := unit_lower (N := 4294967296) (by omega) hn k1 p1 p2 (absF_nonneg _) (absF_nonneg _) (Int.lt_ediv_add_one_mul_self _ hn) (Int.lt_ediv_add_one_mul_self _ hn) l0 l2
    omega

/-! ### products, sums, parts -/
theorem dotX_comm (a b : V) : dotX a b = dotX b a := by unfold dotX; rw [mulX_comm a.1, mulX_comm a.2]
theorem mulX_self {a q : Int} (h : mulX a a = .ok q) : 0 ≤ q := by
  have e := liftR_ok.1 h
  unfold mulR at e
  rw [show (decide (a < 0) != decide (a < 0)) = false by cases decide (a < 0) <;> rfl] at e
  have h0 : 0 ≤ absF a * absF a / 4294967296 := Int.ediv_nonneg (Int.mul_nonneg (absF_nonneg a) (absF_nonneg a)) (by omega)
  unfold wholeR at e
  simp at e
  split at e
  · obtain ⟨rfl, _⟩ := Prod.mk.inj e; exact h0
  · obtain ⟨rfl, _⟩ := Prod.mk.inj e; omega
theorem dotX_self {a : V} {q : Int} (h : dotX a a = .ok q) : 0 ≤ q := by
  obtain ⟨x, hx, h⟩ := andThen_ok_iff.1 h
  obtain ⟨y, hy, h⟩ := andThen_ok_iff.1 h
  have := mulX_self hx; have := mulX_self hy; have := (addX_ok h).1; omega
theorem lenX_turn (x y : Int) : lenX (-y) x = lenX x y := by
  unfold lenX lenR; rw [absF_neg, Int.add_comm]
theorem lenX_nonneg {x y l : Int} (h : lenX x y = .ok l) : 0 ≤ l := by
  have e := liftR_ok.1 h
  unfold lenR at e
  have := isq_nonneg (absF x * absF x + absF y * absF y)
  split at e
  · simp at e
  · obtain ⟨rfl, _⟩ := Prod.mk.inj e; exact this
theorem addX_err {a b n : Int} (h : addX a b = .error n) : n = 3 := by
  have := liftR_err h
  rcases addR_err a b with e | e
  · omega
  · rw [e] at this; exact this.1.symm
theorem addV_err {a b : V} {n : Int} (h : addV a b = .error n) : n = 3 := by
  unfold addV at h
  cases hx : addX a.1 b.1 with
  | error m => rw [hx] at h; obtain rfl := Except.error.inj h; exact addX_err hx
  | ok x =>
    rw [hx, andThen_ok] at h
    cases hy : addX a.2 b.2 with
    | error m => rw [hy] at h; obtain rfl := Except.error.inj h; exact addX_err hy
    | ok y => rw [hy] at h; simp [andThen] at h
theorem add_back {a b s : V} (h1 : I64 a.1) (h2 : I64 a.2) (h : addV a b = .ok s) : subV s b = .ok a := by
  rw [addV_ok h]
  unfold subV
  dsimp only
  rw [subX_in (by rw [Int.add_sub_cancel]; exact h1), andThen_ok, subX_in (by rw [Int.add_sub_cancel]; exact h2), andThen_ok, Int.add_sub_cancel, Int.add_sub_cancel]
theorem scale_by_one {a : V} (h1 : I64 a.1) (h2 : I64 a.2) : scaleV a 4294967296 = .ok a := by
  unfold scaleV; rw [mulX_one h1, andThen_ok, mulX_one h2, andThen_ok]
theorem share_by_one (a : V) : shareV a 1 = .ok a := by
  unfold shareV partX
  rw [if_neg (by omega), if_neg (by omega), andThen_ok, if_neg (by omega), if_neg (by omega), andThen_ok, Int.tdiv_one, Int.tdiv_one]
theorem share_by_0 (a : V) : shareV a 0 = .error 4 := by unfold shareV partX; rw [if_pos rfl]; rfl
/-- VecShares. -/
theorem share_by {a : V} {n : Int} (h1 : -9223372036854775807 ≤ a.1) (h2 : -9223372036854775807 ≤ a.2) (hn : 1 ≤ n) :
    shareV a n = .ok (a.1.tdiv n, a.2.tdiv n) ∧ shareV a (-n) = .ok (-(a.1.tdiv n), -(a.2.tdiv n)) := by
  unfold shareV partX
  constructor
  · rw [if_neg (by omega), if_neg (by omega), andThen_ok, if_neg (by omega), if_neg (by omega), andThen_ok]
  · rw [if_neg (by omega), if_neg (by omega), andThen_ok, if_neg (by omega), if_neg (by omega), andThen_ok, Int.tdiv_neg, Int.tdiv_neg]
theorem tdiv_rest {a n : Int} (hn : 1 ≤ n) : -n < a - a.tdiv n * n ∧ a - a.tdiv n * n < n := by
  have h := Int.mul_tdiv_add_tmod a n
  rw [Int.mul_comm] at h
  have h1 := Int.tmod_lt_of_pos a (show 0 < n by omega)
  have h2 : -n < a.tmod n := by
    have := Int.tmod_lt_of_pos (-a) (show 0 < n by omega)
    rw [Int.neg_tmod] at this; omega
  omega

/-! ### quotients that come out even -/
theorem divX_even {a b q : Int} (hb : 0 < b) (h : a * 4294967296 = q * b) (hq : -9223372036854775807 ≤ q ∧ q ≤ 9223372036854775807) : divX a b = .ok q := by
  have e : absF a * 4294967296 = absF q * b := by
    unfold absF
    by_cases h1 : a < 0
    · have : q < 0 := by
        apply Classical.byContradiction
        intro hc
        have := Int.mul_nonneg (show 0 ≤ q by omega) (show 0 ≤ b by omega)
        omega
      rw [if_pos h1, if_pos this, Int.neg_mul, Int.neg_mul, h]
    · have : ¬ q < 0 := by
        intro hc
        have := Int.mul_pos (show 0 < -q by omega) hb
        rw [Int.neg_mul] at this
        omega
      rw [if_neg h1, if_neg this, h]
  have e2 : absF a * 4294967296 / b = absF q := by rw [e]; exact Int.mul_ediv_cancel _ (by omega)
  rw [divX_pos hb (by rw [e2]; unfold absF; split <;> omega), e2]
  congr 1
  unfold sq absF
  by_cases h1 : a < 0
  · have : q < 0 := by
      apply Classical.byContradiction
      intro hc
      have := Int.mul_nonneg (show 0 ≤ q by omega) (show 0 ≤ b by omega)
      omega
    rw [if_pos h1, if_pos this]; omega
  · have : ¬ q < 0 := by
      intro hc
      have := Int.mul_pos (show 0 < -q by omega) hb
      rw [Int.neg_mul] at this
      omega
    rw [if_neg h1, if_neg this]
end M
end Go.Proofs.Ytcaibieaobhheaa
