/- The laws of chapter 1 first ask whether fix is alive: it is. -/
import Derived.Test.YtdkaaifbmjnknaaDiv
import Derived.Test.YtdkaaifbmjnknaaFixLo
namespace Go.Proofs.Ytdkaaifbmjnknaa
open Go.RowKit M
set_option maxRecDepth 100000
set_option linter.unusedVariables false

theorem alive1_c (w : World) : Calls Try.prog 33 #[] w fun e w' => e = .returned (.bool true) ∧ Dr w w' := by
  have h1 : mulR 4294967296 12884901888 = (12884901888, 0) := by decide +kernel
  have h2 : divR 4294967296 8589934592 = (2147483648, 0) := by decide +kernel
  have h3 : addR 4611686018427387904 4611686018427387904 = (0, 3) := by decide +kernel
  have h4 : ofR 2 = (8589934592, 0) := by decide +kernel
  have c1 := fixMul_c 4294967296 12884901888 (i64_lit (by decide)) (i64_lit (by decide))
  have c2 := fixDiv_c 4294967296 8589934592 (i64_lit (by decide)) (i64_lit (by decide))
  have c3 := fixAdd_c 4611686018427387904 4611686018427387904 (i64_lit (by decide)) (i64_lit (by decide))
  have c4 := fixOf_c 2 (i64_lit (by decide))
  have c5 := fixWhole_c (-1) (i64_lit (by decide))
  rw [h1] at c1; rw [h2] at c2; rw [h3] at c3; rw [h4] at c4
  clear h1 h2 h3 h4
  have C1 := Lib.hid c1; have C2 := Lib.hid c2; have C3 := Lib.hid c3; have C4 := Lib.hid c4; have C5 := Lib.hid c5
  clear c1 c2 c3 c4 c5
  go_enter Try.func33, Try.ntmps33
  go_wp2_with fail
  refine (C1.out _).mono ?_; rintro e w' ⟨rfl, n1, rfl⟩
  go_wp2_with fail
  refine (C2.out _).mono ?_; rintro e w' ⟨rfl, n2, rfl⟩
  go_wp2_with fail
  refine (C3.out _).mono ?_; rintro e w' ⟨rfl, n3, rfl⟩
  go_wp2_with fail
  refine (C4.out _).mono ?_; rintro e w' ⟨rfl, n4, rfl⟩
  go_wp2_with fail
  refine (C5.out _).mono ?_; rintro e w' ⟨rfl, n5, rfl⟩
  go_wp2_with fail
  go_ret
  exact ⟨rfl, _, rfl⟩
end Go.Proofs.Ytdkaaifbmjnknaa
