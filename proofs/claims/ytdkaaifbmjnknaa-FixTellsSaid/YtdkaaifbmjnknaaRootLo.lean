/- What root.Int and root.Sqrt compute; and that root is alive. -/
import Derived.Test.YtdkaaifbmjnknaaRoot
namespace Go.Proofs.Ytdkaaifbmjnknaa
open Go.RowKit M
set_option maxRecDepth 100000
set_option maxHeartbeats 1000000
set_option linter.unusedVariables false

theorem int_c (n : Int) (hn : U64 n) (w : World) :
    Calls Try.prog 30 #[.int .u64 n] w fun e w' => e = .returned (.int .u64 (isq n)) ∧ Dr w w' := by
  have c1 := long_c 0 n (by unfold U64; omega) hn
  rw [show (0 : Int) * 18446744073709551616 + n = n by omega] at c1
  have C1 := Lib.hid c1
  clear c1
  go_enter Try.func30, Try.ntmps30
  go_wp2_with fail
  refine (C1.out _).mono ?_; rintro e w' ⟨rfl, n1, rfl⟩
  go_wp2_with fail
  go_ret
  exact ⟨rfl, _, rfl⟩

theorem sqrt_small {a : Int} (h0 : 0 ≤ a) (h : I64 a) : isq (a * 4294967296) < 281474976710656 := by
  unfold I64 at h
  exact isq_lt (by omega) (by omega) (by omega) (by omega)

theorem sqrt_c (a : Int) (ha : I64 a) (w : World) :
    Calls Try.prog 28 #[.int .i64 a] w fun e w' => e = .returned (.tuple #[.int .i64 (sqrtR a).1, .int .i64 (sqrtR a).2]) ∧ Dr w w' := by
  unfold sqrtR
  by_cases h : a < 0
  · rw [if_pos h]
    go_enter Try.func28, Try.ntmps28
    go_wp2_with fail
    go_ret2
    exact ⟨rfl, Dr.refl _⟩
  · rw [if_neg h]
    have e1 : IntKind.u64.wrap a = a := by unfold I64 at ha; simp only [IntKind.wrap_u64]; omega
    have d := decide_eq_false h
    have s := sqrt_small (by omega) ha
    have z := isq_nonneg (a * 4294967296)
    have c1 := long_c (IntKind.u64.wrap a / 4294967296) (IntKind.u64.wrap (IntKind.u64.wrap a * 4294967296)) (by rw [e1]; unfold I64 at ha; unfold U64; omega) (u64_u64 _)
    have e2 : IntKind.u64.wrap a / 4294967296 * 18446744073709551616 + IntKind.u64.wrap (IntKind.u64.wrap a * 4294967296) = a * 4294967296 := by
      rw [e1]; unfold I64 at ha; simp only [IntKind.wrap_u64]; omega
    rw [e2] at c1
    generalize isq (a * 4294967296) = r at *
    have C1 := Lib.hid c1
    have S := Lib.hid (And.intro z s)
    clear c1 e1 e2 s z h
    go_enter Try.func28, Try.ntmps28
    go_wp2_with fail
    refine (C1.out _).mono ?_; rintro e w' ⟨rfl, n1, rfl⟩
    go_wp2_with fail
    go_ret2
    exact ⟨r2 (wrap64_id (by unfold I64; have := S.out; omega)) rfl, _, rfl⟩

theorem alive4_c (w : World) : Calls Try.prog 25 #[] w fun e w' => e = .returned (.bool true) ∧ Dr w w' := by
  have h1 : sqrtR 17179869184 = (8589934592, 0) := by decide +kernel
  have h2 : lenR 12884901888 (-17179869184) = (21474836480, 0) := by decide +kernel
  have h3 : sqrtR (-1) = (0, 9) := by decide +kernel
  have h4 : isq 99 = 9 := by decide +kernel
  have c1 := sqrt_c 17179869184 (i64_lit (by decide))
  have c2 := rootLen_c 12884901888 (-17179869184) (i64_lit (by decide)) (i64_lit (by decide))
  have c3 := sqrt_c (-1) (i64_lit (by decide))
  have c4 := int_c 99 (by unfold U64; omega)
  rw [h1] at c1; rw [h2] at c2; rw [h3] at c3; rw [h4] at c4
  have C1 := Lib.hid c1; have C2 := Lib.hid c2; have C3 := Lib.hid c3; have C4 := Lib.hid c4
  clear h1 h2 h3 h4 c1 c2 c3 c4
  go_enter Try.func25, Try.ntmps25
  go_wp2_with fail
  refine (C1.out _).mono ?_; rintro e w' ⟨rfl, n1, rfl⟩
  go_wp2_with fail
  refine (C2.out _).mono ?_; rintro e w' ⟨rfl, n2, rfl⟩
  go_wp2_with fail
  refine (C3.out _).mono ?_; rintro e w' ⟨rfl, n3, rfl⟩
  go_wp2_with fail
  refine (C4.out _).mono ?_; rintro e w' ⟨rfl, n4, rfl⟩
  go_wp2_with fail
  go_ret
  exact ⟨rfl, _, rfl⟩
end Go.Proofs.Ytdkaaifbmjnknaa
