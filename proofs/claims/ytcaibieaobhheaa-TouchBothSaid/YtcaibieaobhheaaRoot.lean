/- What the functions of package root compute. -/
import Derived.Test.YtcaibieaobhheaaFix
import Derived.Test.YtcaibieaobhheaaRootMath
import Derived.Laws.Externs
namespace Go.Proofs.Ytcaibieaobhheaa
open Go.RowKit M
set_option maxRecDepth 100000
set_option maxHeartbeats 1000000
set_option linter.unusedVariables false

theorem above_lex (n hi lo : Int) (hh : U64 hi) (hl : U64 lo) (h : 0 ≤ n * n) :
    decide (hi * 18446744073709551616 + lo < n * n) = (decide (hi < n * n / 18446744073709551616) || (n * n / 18446744073709551616 == hi && decide (lo < n * n % 18446744073709551616))) := by
  unfold U64 at *
  generalize n * n = m at *
  by_cases h1 : hi < m / 18446744073709551616
  · rw [decide_eq_true h1, decide_eq_true (by omega)]; rfl
  · rw [decide_eq_false h1]
    by_cases h2 : m / 18446744073709551616 = hi
    · rw [beq_iff_eq.2 h2]
      by_cases h3 : lo < m % 18446744073709551616
      · rw [decide_eq_true h3, decide_eq_true (by omega)]; rfl
      · rw [decide_eq_false h3, decide_eq_false (by omega)]; rfl
    · rw [beq_eq_false_iff_ne.2 h2, decide_eq_false (by omega)]; rfl

theorem above_c (n hi lo : Int) (hn : U64 n) (hh : U64 hi) (hl : U64 lo) (w : World) :
    Calls Try.prog 130 #[.int .u64 n, .int .u64 hi, .int .u64 lo] w fun e w' => e = .returned (.bool (decide (hi * 18446744073709551616 + lo < n * n))) ∧ Dr w w' := by
  have k := above_lex n hi lo hh hl (Int.mul_nonneg hn.1 hn.1)
  have c1 := mul64_c n n hn hn
  rw [k]
  clear k
  generalize n * n / 18446744073709551616 = h at *
  generalize n * n % 18446744073709551616 = l at *
  have C1 := Lib.hid c1
  clear c1
  go_enter Try.func130, Try.ntmps130
  go_wp2_with fail
  refine (C1.out _).mono ?_; rintro e w' ⟨rfl, n1, rfl⟩
  go_wp2_with fail
  all_goals
    go_ret
    refine ⟨?_, _, rfl⟩
    first | rfl | (refine rb ?_; first | rfl | (have h1 := ‹h ≤ hi›; simp [*]))

theorem long_c (hi lo : Int) (hh : U64 hi) (hl : U64 lo) (w : World) :
    Calls Try.prog 128 #[.int .u64 hi, .int .u64 lo] w fun e w' => e = .returned (.int .u64 (isq (hi * 18446744073709551616 + lo))) ∧ Dr w w' := by
  have hN : ∃ N : Nat, hi * 18446744073709551616 + lo = N := ⟨(hi * 18446744073709551616 + lo).toNat, by unfold U64 at hh hl; omega⟩
  obtain ⟨N, hN⟩ := hN
  have c1 := fun n hn => above_c n hi lo hn hh hl
  rw [hN] at c1
  have C1 := Lib.hid c1
  have HN := Lib.hid hN
  clear c1 hN
  have s0 := rinv_start N
  go_enter Try.func128, Try.ntmps128
  go_wp2_with fail
  go_loopw [5, 6] (fun a b w' => ∃ (k : Nat) (r q : Int), a = .int .u64 r ∧ b = .int .u64 q ∧ RInv N k r q ∧ Dr w w') (fun _ b _ => (intOf b).toNat)
  case atStart => exact ⟨64, _, _, rfl, rfl, s0, Dr.refl _⟩
  case round =>
    clear s0
    obtain ⟨k, r, q, rfl, rfl, hr, n, rfl⟩ := hrel
    cases k with
    | zero =>
      have e1 : q = 0 := hr.2.1
      subst e1
      have e2 := rinv_end hr
      have E := Lib.hid (e2.trans (by rw [← HN.out]))
      clear e2 hr
      go_wp2_with fail
      go_ret
      exact ⟨r1 E.out, _, rfl⟩
    | succ k =>
      obtain ⟨o1, o2, o3, o4⟩ := rinv_or hr
      have q1 : decide (0 < q) = true := decide_eq_true o4
      have q2 := Lib.hid o4
      have c2 := C1.out _ o2
      have y := fun c => rinv_yes hr c
      have z := fun c => rinv_no hr c
      have O2 := Lib.hid o2
      clear o2 o3 o4
      by_cases hc : (N : Int) < (r + q) * (r + q)
      · rw [decide_eq_true hc] at c2
        have C2 := Lib.hid c2
        have Z := Lib.hid (z (by omega))
        clear c2 y z hc hr
        go_wp2_with fail
        refine (C2.out _).mono ?_; rintro e w' ⟨rfl, n1, rfl⟩
        go_wp2_with fail
        exact ⟨⟨k, _, _, rfl, rfl, Z.out, _, rfl⟩, by have := q2.out; simp only [intOf]; omega⟩
      · rw [decide_eq_false hc] at c2
        have C2 := Lib.hid c2
        have Y := Lib.hid (y (by omega))
        clear c2 y z hc hr
        go_wp2_with fail
        refine (C2.out _).mono ?_; rintro e w' ⟨rfl, n1, rfl⟩
        go_wp2_with fail
        exact ⟨⟨k, _, _, rfl, rfl, Y.out, _, rfl⟩, by have := q2.out; simp only [intOf]; omega⟩

theorem size_c (a : Int) (h : I64 a) (w : World) :
    Calls Try.prog 127 #[.int .i64 a] w fun e w' => e = .returned (.int .u64 (absF a)) ∧ Dr w w' := by
  by_cases hn : a < 0
  · have e1 := Lib.hid (wrap_neg_abs h hn)
    go_enter Try.func127, Try.ntmps127
    go_wp2
    go_ret
    exact ⟨r1 e1.out, Dr.refl _⟩
  · have e1 := Lib.hid (wrap_abs h hn)
    go_enter Try.func127, Try.ntmps127
    go_wp2
    go_ret
    exact ⟨r1 e1.out, Dr.refl _⟩

theorem add64_run (x y c : Int) (hx : 0 ≤ x) (hy : 0 ≤ y) (hc0 : 0 ≤ c) (hc : c ≤ 1) (w : World) :
    (callFunc 124 #[.int .u64 x, .int .u64 y, .int .u64 c]).run Try.prog w =
      .ok (.value (.tuple #[.int .u64 ((x + y + c) % 18446744073709551616), .int .u64 ((x + y + c) / 18446744073709551616)])) w := by
  rw [run_callFunc_extern Try.func124 (by kernel_rfl) (by kernel_rfl) (by kernel_rfl) (e := add64Entry) (by kernel_rfl), run_add64 x y c hx hy hc0 hc]
  rfl

theorem sum128 {p q : Int} (hp : 0 ≤ p ∧ p ≤ 9223372036854775808 * 9223372036854775808) (hq : 0 ≤ q ∧ q ≤ 9223372036854775808 * 9223372036854775808) :
    ∃ s c t : Int, (p % 18446744073709551616 + q % 18446744073709551616 + 0) % 18446744073709551616 = s ∧ (p % 18446744073709551616 + q % 18446744073709551616 + 0) / 18446744073709551616 = c ∧
      (p / 18446744073709551616 + q / 18446744073709551616 + c) % 18446744073709551616 = t ∧ (p / 18446744073709551616 + q / 18446744073709551616 + c) / 18446744073709551616 = 0 ∧
      0 ≤ c ∧ c ≤ 1 ∧ U64 s ∧ U64 t ∧ t * 18446744073709551616 + s = p + q := by
  refine ⟨_, _, _, rfl, rfl, rfl, ?_, ?_, ?_, ?_, ?_, ?_⟩
  all_goals first | omega | (unfold U64; omega)

theorem sq_bounds {a : Int} (ha : I64 a) : 0 ≤ absF a * absF a ∧ absF a * absF a ≤ 9223372036854775808 * 9223372036854775808 :=
  ⟨Int.mul_nonneg (absF_nonneg _) (absF_nonneg _), Int.mul_le_mul (absF_le ha) (absF_le ha) (absF_nonneg _) (by omega)⟩

theorem rootLen_c (x y : Int) (hx : I64 x) (hy : I64 y) (w : World) :
    Calls Try.prog 122 #[.int .i64 x, .int .i64 y] w fun e w' => e = .returned (.tuple #[.int .i64 (lenR x y).1, .int .i64 (lenR x y).2]) ∧ Dr w w' := by
  have p := sq_bounds hx
  have q := sq_bounds hy
  obtain ⟨s, c, t, e1, e2, e3, e4, e5, e6, e7, e8, e9⟩ := sum128 p q
  have a1 := fun w => add64_run (absF x * absF x % 18446744073709551616) (absF y * absF y % 18446744073709551616) 0 (by omega) (by omega) (by omega) (by omega) w
  have a2 := fun w => add64_run (absF x * absF x / 18446744073709551616) (absF y * absF y / 18446744073709551616) c (by omega) (by omega) e5 e6 w
  rw [e1, e2] at a1
  rw [e3, e4] at a2
  have c1 := size_c x hx
  have c2 := size_c y hy
  have c3 := mul64_c _ _ (absF_u64 hx) (absF_u64 hx)
  have c4 := mul64_c _ _ (absF_u64 hy) (absF_u64 hy)
  have c5 := long_c t s e8 e7
  rw [e9] at c5
  have hz : isq (absF x * absF x + absF y * absF y) < 18446744073709551616 := isq_lt (by omega) (by omega) (by omega) (by omega)
  have hz0 := isq_nonneg (absF x * absF x + absF y * absF y)
  unfold lenR
  generalize isq (absF x * absF x + absF y * absF y) = r at *
  generalize absF x * absF x % 18446744073709551616 = x0 at *
  generalize absF x * absF x / 18446744073709551616 = x1 at *
  generalize absF y * absF y % 18446744073709551616 = y0 at *
  generalize absF y * absF y / 18446744073709551616 = y1 at *
  clear e1 e2 e3 e4 e5 e6 e7 e8 e9 p q
  have C1 := Lib.hid c1; have C2 := Lib.hid c2; have C3 := Lib.hid c3; have C4 := Lib.hid c4; have C5 := Lib.hid c5
  clear c1 c2 c3 c4 c5
  have HZ := Lib.hid (And.intro hz0 hz)
  clear hz hz0
  by_cases hr : 9223372036854775808 ≤ r
  · rw [if_pos hr]
    have d := decide_eq_true hr
    have HR := Lib.hid hr
    clear hr
    go_enter Try.func122, Try.ntmps122
    go_wp2_with fail
    refine (C1.out _).mono ?_; rintro e w' ⟨rfl, n1, rfl⟩
    go_wp2_with fail
    refine (C1.out _).mono ?_; rintro e w' ⟨rfl, n2, rfl⟩
    go_wp2_with fail
    refine (C3.out _).mono ?_; rintro e w' ⟨rfl, n3, rfl⟩
    go_wp2_with fail
    refine (C2.out _).mono ?_; rintro e w' ⟨rfl, n4, rfl⟩
    go_wp2_with fail
    refine (C2.out _).mono ?_; rintro e w' ⟨rfl, n5, rfl⟩
    go_wp2_with fail
    refine (C4.out _).mono ?_; rintro e w' ⟨rfl, n6, rfl⟩
    go_wp2_with fail
    refine (C5.out _).mono ?_; rintro e w' ⟨rfl, n7, rfl⟩
    go_wp2_with fail
    go_ret2
    exact ⟨rfl, _, rfl⟩
  · rw [if_neg hr]
    have d := decide_eq_false hr
    have HR := Lib.hid (Int.not_le.1 hr)
    clear hr
    go_enter Try.func122, Try.ntmps122
    go_wp2_with fail
    refine (C1.out _).mono ?_; rintro e w' ⟨rfl, n1, rfl⟩
    go_wp2_with fail
    refine (C1.out _).mono ?_; rintro e w' ⟨rfl, n2, rfl⟩
    go_wp2_with fail
    refine (C3.out _).mono ?_; rintro e w' ⟨rfl, n3, rfl⟩
    go_wp2_with fail
    refine (C2.out _).mono ?_; rintro e w' ⟨rfl, n4, rfl⟩
    go_wp2_with fail
    refine (C2.out _).mono ?_; rintro e w' ⟨rfl, n5, rfl⟩
    go_wp2_with fail
    refine (C4.out _).mono ?_; rintro e w' ⟨rfl, n6, rfl⟩
    go_wp2_with fail
    refine (C5.out _).mono ?_; rintro e w' ⟨rfl, n7, rfl⟩
    go_wp2_with fail
    go_ret2
    exact ⟨r2 (wrap64_id (by unfold I64; have := HZ.out; have := HR.out; omega)) rfl, _, rfl⟩
end Go.Proofs.Ytcaibieaobhheaa
