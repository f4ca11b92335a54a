/- Two bodies that go towards one another: the plain law. -/
import Derived.Test.YtcaibieaobhheaaVecMath
namespace Go.Proofs.Ytcaibieaobhheaa
open Go.RowKit M
set_option linter.unusedVariables false
namespace M
theorem slow_side {n l j p r N : Int} (hn : 1 ≤ n) (hl : 0 ≤ l) (h1 : n * l ≤ N) (h2 : N ≤ n * (l + 1)) (hj : 0 ≤ j) (e : n * p = j - r) (hr : -n < r) (hr' : r < n) :
    j * l ≤ (p + 1) * N ∧ (p - 1) * N ≤ j * l + j := by
  have f1 : n * (p + 1) = j - r + n := by rw [Int.mul_add, e]; omega
  have f2 : n * (p - 1) = j - r - n := by rw [Int.mul_sub, e]; omega
  have p0 : 0 < p + 1 := by
    apply Classical.byContradiction
    intro hc
    have := Int.mul_nonneg (show 0 ≤ n by omega) (show 0 ≤ -(p + 1) by omega)
    rw [Int.mul_neg] at this
    omega
  constructor
  · have a1 : j * l ≤ (n * (p + 1)) * l := Int.mul_le_mul_of_nonneg_right (by omega) hl
    have a2 : (p + 1) * (n * l) ≤ (p + 1) * N := Int.mul_le_mul_of_nonneg_left h1 (by omega)
    have a3 : (n * (p + 1)) * l = (p + 1) * (n * l) := by rw [Int.mul_comm n, Int.mul_assoc]
    omega
  · by_cases hp : p ≤ 1
    · have a1 : (p - 1) * N ≤ 0 := by
        have hN : 0 ≤ N := by have := Int.mul_nonneg (show 0 ≤ n by omega) hl; omega
        have := Int.mul_nonneg (show 0 ≤ -(p - 1) by omega) hN
        rw [Int.neg_mul] at this
        omega
      have a2 := Int.mul_nonneg hj hl
      omega
    · have a1 : (p - 1) * N ≤ (p - 1) * (n * (l + 1)) := Int.mul_le_mul_of_nonneg_left h2 (by omega)
      have a2 : (n * (p - 1)) * (l + 1) ≤ j * (l + 1) := Int.mul_le_mul_of_nonneg_right (by omega) (by omega)
      have a3 : (n * (p - 1)) * (l + 1) = (p - 1) * (n * (l + 1)) := by rw [Int.mul_comm n, Int.mul_assoc]
      rw [Int.mul_add j l 1, Int.mul_one] at a2
      omega
theorem recip {m : Int} (h1 : 1 ≤ m) (h2 : m ≤ 50) : m * (4294967296 / m) ≤ 4294967296 ∧ 4294967296 ≤ m * (4294967296 / m + 1) ∧ 85899345 ≤ 4294967296 / m ∧ 4294967296 / m ≤ 4294967296 := by
  have a := Int.mul_ediv_add_emod 4294967296 m
  have b := Int.emod_nonneg 4294967296 (show m ≠ 0 by omega)
  have c := Int.emod_lt_of_pos 4294967296 (show 0 < m by omega)
  have d : 85899345 ≤ 4294967296 / m := (Int.le_ediv_iff_mul_le (by omega)).2 (by omega)
  have e : 4294967296 / m ≤ 4294967296 := Int.ediv_le_self _ (by omega)
  refine ⟨by omega, ?_, d, e⟩
  rw [Int.mul_add]; omega
theorem light_whole {m : Int} (h1 : 1 ≤ m) (h2 : m ≤ 50) : divX 4294967296 (m * 4294967296) = .ok (4294967296 / m) := by
  have r := recip h1 h2
  have e : absF 4294967296 * 4294967296 / (m * 4294967296) = 4294967296 / m := by
    rw [absF_of_nonneg (by omega)]
    exact Int.mul_ediv_mul_of_pos_left 4294967296 m (by omega)
  rw [divX_pos (by omega) (by rw [e]; omega), e]
  unfold sq; rw [if_neg (by omega)]
/-- What the push of the bounce comes to. -/
def jolt (m n D : Int) : Int := D * 6442450944 * 4294967296 / (4294967296 / m + 4294967296 / n)
theorem jolt_spec {m n D : Int} (m1 : 1 ≤ m) (m2 : m ≤ 50) (n1 : 1 ≤ n) (n2 : n ≤ 50) (d1 : 1 ≤ D) (d2 : D ≤ 200) :
    0 ≤ jolt m n D ∧ jolt m n D ≤ 9223372036854775807 / 16 ∧ jolt m n D * (4294967296 / m + 4294967296 / n) ≤ D * 27670116110564327424 ∧ D * 27670116110564327424 < jolt m n D * (4294967296 / m + 4294967296 / n) + (4294967296 / m + 4294967296 / n) := by
  have r := recip m1 m2
  have q := recip n1 n2
  unfold jolt
  generalize 4294967296 / m = la at *
  generalize 4294967296 / n = lb at *
  have k : 0 < la + lb := by omega
  have a := Int.ediv_mul_le (D * 6442450944 * 4294967296) (show la + lb ≠ 0 by omega)
  have b := Int.lt_ediv_add_one_mul_self (D * 6442450944 * 4294967296) k
  have c : 0 ≤ D * 6442450944 * 4294967296 / (la + lb) := Int.ediv_nonneg (by omega) (by omega)
  generalize D * 6442450944 * 4294967296 / (la + lb) = j at *
  rw [Int.add_mul, Int.one_mul] at b
  have e : j * 171798690 ≤ j * (la + lb) := Int.mul_le_mul_of_nonneg_left (by omega) c
  refine ⟨c, by omega, by omega, by omega⟩
theorem slows {m n x y : Int} (m1 : 1 ≤ m) (m2 : m ≤ 50) (n1 : 1 ≤ n) (n2 : n ≤ 50) (hx : -100 ≤ x ∧ x ≤ 100) (hy : -100 ≤ y ∧ y ≤ 100) (h : y < x) :
    0 < (y * n * 4294967296 + jolt m n (x - y)).tdiv n - (x * m * 4294967296 - jolt m n (x - y)).tdiv m
      ∧ (y * n * 4294967296 + jolt m n (x - y)).tdiv n - (x * m * 4294967296 - jolt m n (x - y)).tdiv m ≤ (x - y) * 4294967296 := by
  obtain ⟨j0, j1, j2, j3⟩ := jolt_spec m1 m2 n1 n2 (show 1 ≤ x - y by omega) (by omega)
  obtain ⟨a1, a2, a3, a4⟩ := recip m1 m2
  obtain ⟨b1, b2, b3, b4⟩ := recip n1 n2
  generalize 4294967296 / m = la at *
  generalize 4294967296 / n = lb at *
  generalize jolt m n (x - y) = j at *
  have t1 := Int.mul_tdiv_add_tmod (y * n * 4294967296 + j) n
  have t2 := Int.mul_tdiv_add_tmod (x * m * 4294967296 - j) m
  have u1 := Int.tmod_lt_of_pos (y * n * 4294967296 + j) (show 0 < n by omega)
  have u2 := Int.tmod_lt_of_pos (x * m * 4294967296 - j) (show 0 < m by omega)
  have v1 : -n < (y * n * 4294967296 + j).tmod n := by
    have := Int.tmod_lt_of_pos (-(y * n * 4294967296 + j)) (show 0 < n by omega)
    rw [Int.neg_tmod] at this; omega
  have v2 : -m < (x * m * 4294967296 - j).tmod m := by
    have := Int.tmod_lt_of_pos (-(x * m * 4294967296 - j)) (show 0 < m by omega)
    rw [Int.neg_tmod] at this; omega
  generalize (y * n * 4294967296 + j).tmod n = r1 at *
  generalize (x * m * 4294967296 - j).tmod m = r2 at *
  generalize (y * n * 4294967296 + j).tdiv n = P at *
  generalize (x * m * 4294967296 - j).tdiv m = Q at *
  have w1 : n * (P - y * 4294967296) = j - r1 := by
    rw [Int.mul_sub, ← Int.mul_assoc, Int.mul_comm n y]; omega
  have w2 : m * (x * 4294967296 - Q) = j - (-r2) := by
    rw [Int.mul_sub, ← Int.mul_assoc, Int.mul_comm m x]; omega
  have s1 := slow_side n1 (by omega) b1 b2 j0 w1 v1 u1
  have s2 := slow_side m1 (by omega) a1 a2 j0 w2 (by omega) (by omega)
  rw [Int.mul_add] at j2 j3
  omega
theorem contact_slows {m n x y : Int} (m1 : 1 ≤ m) (m2 : m ≤ 50) (n1 : 1 ≤ n) (n2 : n ≤ 50) (hx : -100 ≤ x ∧ x ≤ 100) (hy : -100 ≤ y ∧ y ≤ 100) :
    contactX ⟨1, 4294967296, 0, m * 4294967296, 0, 0, x * m * 4294967296, 0⟩ ⟨1, 4294967296, 0, n * 4294967296, 0, 0, y * n * 4294967296, 0⟩ ⟨4294967296, 0, 0⟩
      = .ok (if y < x then (⟨1, 4294967296, 0, m * 4294967296, 0, 0, x * m * 4294967296 - jolt m n (x - y), 0⟩, ⟨1, 4294967296, 0, n * 4294967296, 0, 0, y * n * 4294967296 + jolt m n (x - y), 0⟩)
        else (⟨1, 4294967296, 0, m * 4294967296, 0, 0, x * m * 4294967296, 0⟩, ⟨1, 4294967296, 0, n * 4294967296, 0, 0, y * n * 4294967296, 0⟩)) := by
  obtain ⟨a1, a2, a3, a4⟩ := recip m1 m2
  obtain ⟨b1, b2, b3, b4⟩ := recip n1 n2
  have l1 := light_whole m1 m2
  have l2 := light_whole n1 n2
  have z : I64 0 := by unfold I64; omega
  have zz : addX 0 0 = .ok 0 := addX_in z
  have zs : subX 0 0 = .ok 0 := subX_in z
  have hxm : -5000 ≤ x * m ∧ x * m ≤ 5000 := by
    constructor
    · have := Int.mul_nonneg (show 0 ≤ x + 100 by omega) (show 0 ≤ m by omega); rw [Int.add_mul] at this; omega
    · have := Int.mul_nonneg (show 0 ≤ 100 - x by omega) (show 0 ≤ m by omega); rw [Int.sub_mul] at this; omega
  have hyn : -5000 ≤ y * n ∧ y * n ≤ 5000 := by
    constructor
    · have := Int.mul_nonneg (show 0 ≤ y + 100 by omega) (show 0 ≤ n by omega); rw [Int.add_mul] at this; omega
    · have := Int.mul_nonneg (show 0 ≤ 100 - y by omega) (show 0 ≤ n by omega); rw [Int.sub_mul] at this; omega
  have v1 : divX (x * m * 4294967296) (m * 4294967296) = .ok (x * 4294967296) :=
    divX_even (by omega) (by rw [Int.mul_assoc x m, Int.mul_assoc x, Int.mul_assoc x, Int.mul_comm (m * 4294967296)]) (by omega)
  have v2 : divX (y * n * 4294967296) (n * 4294967296) = .ok (y * 4294967296) :=
    divX_even (by omega) (by rw [Int.mul_assoc y n, Int.mul_assoc y, Int.mul_assoc y, Int.mul_comm (n * 4294967296)]) (by omega)
  have v3 : divX 0 (m * 4294967296) = .ok 0 := divX_even (by omega) (by omega) (by omega)
  have v4 : divX 0 (n * 4294967296) = .ok 0 := divX_even (by omega) (by omega) (by omega)
  have v5 : divX 0 (4294967296 / m + 4294967296 / n) = .ok 0 := divX_even (by omega) (by omega) (by omega)
  have s1 : subX (y * 4294967296) (x * 4294967296) = .ok ((y - x) * 4294967296) := by rw [subX_in (by unfold I64; omega)]; congr 1; omega
  have hp : ∀ a b : Bd, a.mass = m * 4294967296 → b.mass = n * 4294967296 → a.px = 0 → a.py = 0 → b.px = 0 → b.py = 0 → partsX a b ⟨4294967296, 0, 0⟩ (4294967296 / m + 4294967296 / n) = .ok (a, b) := by
    intro a b ha hb p1 p2 p3 p4
    have q1 : lightX a = .ok (4294967296 / m) := by unfold lightX; rw [if_neg (by omega), ha, l1]
    have q2 : lightX b = .ok (4294967296 / n) := by unfold lightX; rw [if_neg (by omega), hb, l2]
    unfold partsX
    simp only [show Int.tdiv 0 2 = 0 from rfl, v5, andThen_ok, q1, q2, zero_mulX, scaleV, mulX_zero, subV, addV, Bd.pos, p1, p2, p3, p4, zs, zz]
    congr 2
    · cases a; simp_all
    · cases b; simp_all
  unfold contactX bothK lightX
  dsimp only
  rw [if_neg (by omega), l1, andThen_ok, if_neg (by omega), l2, andThen_ok, addX_in (by unfold I64; omega), andThen_ok, if_neg (by omega)]
  unfold speedK speedX Bd.mom
  dsimp only
  rw [if_neg (by omega), if_neg (by omega)]
  unfold overV
  dsimp only
  rw [v2, andThen_ok, v4, andThen_ok, andThen_ok, v1, andThen_ok, v3, andThen_ok, andThen_ok]
  unfold subV dotX
  dsimp only
  rw [s1, andThen_ok, zs, andThen_ok, andThen_ok]
  dsimp only
  rw [mulX_one (by unfold I64; omega), andThen_ok, zero_mulX, andThen_ok, addX_in (by rw [Int.add_zero]; unfold I64; omega), andThen_ok, Int.add_zero]
  unfold bounceX
  by_cases h : y < x
  · obtain ⟨j0, j1, j2, j3⟩ := jolt_spec m1 m2 n1 n2 (show 1 ≤ x - y by omega) (by omega)
    have t1 : ((y - x) * 4294967296).tdiv 2 = (y - x) * 2147483648 := by
      rw [show (y - x) * 4294967296 = (y - x) * 2147483648 * 2 by omega]; exact Int.mul_tdiv_cancel _ (by omega)
    have t2 : divX ((x - y) * 6442450944) (4294967296 / m + 4294967296 / n) = .ok (jolt m n (x - y)) := by
      have e : absF ((x - y) * 6442450944) * 4294967296 / (4294967296 / m + 4294967296 / n) = jolt m n (x - y) := by rw [absF_of_nonneg (by omega)]; rfl
      rw [divX_pos (by omega) (by rw [e]; omega), e]; unfold sq; rw [if_neg (by omega)]
    have hj : I64 (jolt m n (x - y)) := by unfold I64; omega
    rw [if_pos (by omega), if_pos h, t1, addX_in (by unfold I64; omega), andThen_ok, subX_in (by unfold I64; omega), andThen_ok,
      show 0 - ((y - x) * 4294967296 + (y - x) * 2147483648) = (x - y) * 6442450944 by omega, t2, andThen_ok]
    unfold scaleV
    dsimp only
    rw [one_mulX hj, andThen_ok, zero_mulX, andThen_ok, andThen_ok]
    unfold applyX Bd.mom subV addV
    dsimp only
    rw [if_neg (by omega), subX_in (by unfold I64; omega), andThen_ok, zs, andThen_ok, andThen_ok, if_neg (by omega), addX_in (by unfold I64; omega), andThen_ok, zz, andThen_ok, andThen_ok, andThen_ok]
    exact hp _ _ rfl rfl rfl rfl rfl rfl
  · rw [if_neg (by omega), if_neg h, andThen_ok]
    exact hp _ _ rfl rfl rfl rfl rfl rfl
end M
end Go.Proofs.Ytcaibieaobhheaa
