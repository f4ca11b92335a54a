/- What each function of package fix computes (but Div: see Div). -/
import Derived.Test.YtcaibieaobhheaaMath
import Derived.Test.YtcaibieaobhheaaProg
import Derived.Handy
import Derived.Lib.Hide
import Derived.Lib.Mul64
namespace Go.Proofs.Ytcaibieaobhheaa
open Go.RowKit M
set_option maxRecDepth 100000
set_option linter.unusedVariables false

theorem maskN (a : Nat) (ha : a < 18446744073709551616) : bits .and .u64 (a : Int) 4294967295 = ((a % 4294967296 : Nat) : Int) := by
  have h := bits_and_u64_nat a 4294967295 ha (by omega)
  have e : a &&& 4294967295 = a % 4294967296 := Nat.and_two_pow_sub_one_eq_mod a 32
  rw [e] at h
  exact h
theorem maskY (Y : Int) (h0 : 0 ≤ Y) (h1 : Y < 18446744073709551616) : bits .and .u64 Y 4294967295 = Y % 4294967296 := by
  obtain ⟨Y, rfl⟩ := Int.eq_ofNat_of_zero_le h0
  rw [maskN _ (by omega)]; omega
theorem divN (a : Nat) : (a : Int) / 4294967296 = ((a / 4294967296 : Nat) : Int) := by omega
theorem mulN (a b : Nat) : (a : Int) * (b : Int) = ((a * b : Nat) : Int) := (Int.natCast_mul a b).symm
theorem addN (a b : Nat) : (a : Int) + (b : Int) = ((a + b : Nat) : Int) := (Int.natCast_add a b).symm
theorem wrapN (a : Nat) (ha : a < 18446744073709551616) : IntKind.u64.wrap (a : Int) = (a : Int) := by rw [IntKind.wrap_u64]; omega
theorem wrapM (a : Nat) : IntKind.u64.wrap (a : Int) = ((a % 18446744073709551616 : Nat) : Int) := by rw [IntKind.wrap_u64]; omega

theorem parts_c (a : Int) (h : I64 a) (w : World) :
    Calls Try.prog 120 #[.int .i64 a] w fun e w' => e = .returned (.tuple #[.bool (decide (a < 0)), .int .u64 (absF a)]) ∧ Dr w w' := by
  by_cases hn : a < 0
  · have e1 := Lib.hid (wrap_neg_abs h hn)
    go_enter Try.func120, Try.ntmps120
    go_wp2
    go_ret2
    exact ⟨rb2 (decide_eq_true hn).symm e1.out, Dr.refl _⟩
  · have e1 := Lib.hid (wrap_abs h hn)
    have e2 := Lib.hid (decide_eq_false hn)
    go_enter Try.func120, Try.ntmps120
    go_wp2
    go_ret2
    exact ⟨rb2 e2.out.symm e1.out, Dr.refl _⟩

theorem whole_c (less : Bool) (n : Int) (h : U64 n) (w : World) :
    Calls Try.prog 121 #[.bool less, .int .u64 n] w fun e w' => e = .returned (.tuple #[.int .i64 (wholeR less n).1, .int .i64 (wholeR less n).2]) ∧ Dr w w' := by
  cases less
  · by_cases hn : n < 9223372036854775808
    · have e1 := Lib.hid (wholeR_more h hn)
      have e2 := Lib.hid (wholeR_more0 hn)
      go_enter Try.func121, Try.ntmps121
      go_wp2
      go_ret2
      exact ⟨r2 e1.out e2.out, Dr.refl _⟩
    · have e1 := Lib.hid (wholeR_more3 hn)
      go_enter Try.func121, Try.ntmps121
      go_wp2
      go_ret2
      exact ⟨r2 (by rw [e1.out]) (by rw [e1.out]), Dr.refl _⟩
  · by_cases hn : n ≤ 9223372036854775808
    · have e1 := Lib.hid (wholeR_less h hn)
      have e2 := Lib.hid (wholeR_less0 hn)
      go_enter Try.func121, Try.ntmps121
      go_wp2
      go_ret2
      exact ⟨r2 e1.out e2.out, Dr.refl _⟩
    · have e1 := Lib.hid (wholeR_less3 hn)
      go_enter Try.func121, Try.ntmps121
      go_wp2
      go_ret2
      exact ⟨r2 (by rw [e1.out]) (by rw [e1.out]), Dr.refl _⟩

theorem fixAdd_c (a b : Int) (ha : I64 a) (hb : I64 b) (w : World) :
    Calls Try.prog 107 #[.int .i64 a, .int .i64 b] w fun e w' => e = .returned (.tuple #[.int .i64 (addR a b).1, .int .i64 (addR a b).2]) ∧ Dr w w' := by
  go_enter Try.func107, Try.ntmps107
  go_wp2
  all_goals
    go_ret2
    refine ⟨rp ?_, Dr.refl _⟩
    first | exact add_1 ha hb ‹_› ‹_› | exact add_2 ha hb ‹_› ‹_› | exact add_3 ha hb ‹_›

theorem fixSub_c (a b : Int) (ha : I64 a) (hb : I64 b) (w : World) :
    Calls Try.prog 106 #[.int .i64 a, .int .i64 b] w fun e w' => e = .returned (.tuple #[.int .i64 (subR a b).1, .int .i64 (subR a b).2]) ∧ Dr w w' := by
  go_enter Try.func106, Try.ntmps106
  go_wp2
  all_goals
    go_ret2
    refine ⟨rp ?_, Dr.refl _⟩
    first | exact sub_1 ha hb ‹_› | exact sub_2 ha hb ‹_› ‹_› | exact sub_3 ha hb ‹_› ‹_›

theorem mul64_c (x y : Int) (hx : U64 x) (hy : U64 y) (w : World) :
    Calls Try.prog 115 #[.int .u64 x, .int .u64 y] w fun e w' => e = .returned (.tuple #[.int .u64 (x * y / 18446744073709551616), .int .u64 (x * y % 18446744073709551616)]) ∧ Dr w w' := by
  obtain ⟨x, rfl⟩ := Int.eq_ofNat_of_zero_le hx.1
  obtain ⟨y, rfl⟩ := Int.eq_ofNat_of_zero_le hy.1
  have hx' : x < 18446744073709551616 := by have := hx.2; omega
  have hy' : y < 18446744073709551616 := by have := hy.2; omega
  obtain ⟨bd, bt, bw, hhi⟩ := Lib.mul64_hi x y hx' hy'
  have ba := Lib.half_mul_le (a := x / 4294967296) (b := y / 4294967296) (by omega) (by omega)
  have bb := Lib.half_mul_le (a := x / 4294967296) (b := y % 4294967296) (by omega) (by omega)
  have bc := Lib.half_mul_le (a := x % 4294967296) (b := y / 4294967296) (by omega) (by omega)
  have ba' : x / 4294967296 * (y / 4294967296) < 18446744073709551616 := by omega
  have bb' : x / 4294967296 * (y % 4294967296) < 18446744073709551616 := by omega
  have bc' : x % 4294967296 * (y / 4294967296) < 18446744073709551616 := by omega
  have bh1 : x / 4294967296 * (y / 4294967296) + (x / 4294967296 * (y % 4294967296) + x % 4294967296 * (y % 4294967296) / 4294967296) / 4294967296 < 18446744073709551616 := by omega
  have bh : x / 4294967296 * (y / 4294967296) + (x / 4294967296 * (y % 4294967296) + x % 4294967296 * (y % 4294967296) / 4294967296) / 4294967296 + ((x / 4294967296 * (y % 4294967296) + x % 4294967296 * (y % 4294967296) / 4294967296) % 4294967296 + x % 4294967296 * (y / 4294967296)) / 4294967296 < 18446744073709551616 := by omega
  go_enter Try.func115, Try.ntmps115
  go_wp2
  simp only [maskN x hx', maskN y hy', divN, mulN, addN, wrapN _ bd, wrapN _ bb', wrapN _ bt, maskN _ bt, wrapN _ bc', wrapN _ bw, wrapN _ ba', wrapN _ bh1, wrapN _ bh, wrapM (x * y)]
  rw [hhi]
  go_ret2
  exact ⟨r2 (by simp) (by simp), Dr.refl _⟩

theorem mulU64 {a b : Int} (ha : I64 a) (hb : I64 b) : U64 (absF a * absF b / 18446744073709551616) ∧ U64 (absF a * absF b % 18446744073709551616) := by
  have h1 := absF_nonneg a; have h2 := absF_nonneg b; have h3 := absF_le ha; have h4 := absF_le hb
  have h5 : 0 ≤ absF a * absF b := Int.mul_nonneg h1 h2
  have h6 : absF a * absF b ≤ 9223372036854775808 * 9223372036854775808 := Int.mul_le_mul h3 h4 h2 (by omega)
  unfold U64; omega

theorem bits_or_mid (h l : Int) (k0 : 0 ≤ h) (k1 : h < 4294967296) (k2 : 0 ≤ l) (k3 : l < 4294967296) :
    bits .or .u64 (h * 4294967296) l = h * 4294967296 + l := by
  obtain ⟨h, rfl⟩ := Int.eq_ofNat_of_zero_le k0
  obtain ⟨l, rfl⟩ := Int.eq_ofNat_of_zero_le k2
  have e : (h : Int) * 4294967296 = ((4294967296 * h : Nat) : Int) := by omega
  rw [e, bits_or_u64_nat _ _ (by omega) (by omega)]
  have := Nat.two_pow_add_eq_or_of_lt (i := 32) (b := l) (by omega) h
  have e2 : 4294967296 * h ||| l = 4294967296 * h + l := this.symm
  rw [e2]; omega
theorem mul_mid (m : Int) (h0 : 0 ≤ m) (h : m / 18446744073709551616 < 4294967296) :
    bits .or .u64 (m / 18446744073709551616 * 4294967296) (m % 18446744073709551616 / 4294967296) = m / 4294967296 := by
  rw [bits_or_mid _ _ (by omega) h (by omega) (by omega)]; omega

theorem fixMul_c (a b : Int) (ha : I64 a) (hb : I64 b) (w : World) :
    Calls Try.prog 108 #[.int .i64 a, .int .i64 b] w fun e w' => e = .returned (.tuple #[.int .i64 (mulR a b).1, .int .i64 (mulR a b).2]) ∧ Dr w w' := by
  obtain ⟨k1, k2⟩ := mulU64 ha hb
  have k3 : 0 ≤ absF a * absF b := Int.mul_nonneg (absF_nonneg a) (absF_nonneg b)
  go_enter Try.func108, Try.ntmps108
  go_wp2_with fail
  refine (parts_c _ ha _).mono ?_; rintro e w' ⟨rfl, n1, rfl⟩
  go_wp2_with fail
  refine (parts_c _ hb _).mono ?_; rintro e w' ⟨rfl, n2, rfl⟩
  go_wp2_with fail
  refine (mul64_c _ _ (absF_u64 ha) (absF_u64 hb) _).mono ?_; rintro e w' ⟨rfl, n3, rfl⟩
  go_wp2_with fail
  · go_ret2
    exact ⟨rp (mul_great ‹_›), _, rfl⟩
  · rw [mul_mid _ k3 ‹_›]
    refine (whole_c _ _ ?_ _).mono ?_
    · have h : absF a * absF b / 18446744073709551616 < 4294967296 := ‹_›
      unfold U64; omega
    rintro e w' ⟨rfl, n4, rfl⟩
    go_wp2_with fail
    go_ret2
    exact ⟨rfl, _, rfl⟩

end Go.Proofs.Ytcaibieaobhheaa
