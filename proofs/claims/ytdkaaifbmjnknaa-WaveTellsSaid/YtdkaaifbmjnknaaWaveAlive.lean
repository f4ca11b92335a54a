/- wave is alive. -/
import Derived.Test.YtdkaaifbmjnknaaWave
namespace Go.Proofs.Ytdkaaifbmjnknaa
open Go.RowKit M
set_option maxRecDepth 100000
set_option maxHeartbeats 2000000
set_option linter.unusedVariables false
theorem alive5_c (w : World) : Calls Try.prog 46 #[] w fun e w' => e = .returned (.bool true) ∧ Grown w w' := by
  have h1 : rotR 4294967296 0 16384 = (0, 4294967296, 0) := by decide +kernel
  have h2 : sinR 0 = 0 := by decide +kernel
  have h3 : sinR 16384 = 4294967296 := by decide +kernel
  have h4 : cosR 0 = 4294967296 := by decide +kernel
  have c1 := rotate_c 4294967296 0 16384 (i64_lit (by decide)) (i64_lit (by decide)) (i64_lit (by decide))
  have c2 := sin_c 0 (i64_lit (by decide))
  have c3 := sin_c 16384 (i64_lit (by decide))
  have c4 := cos_c 0 (i64_lit (by decide))
  have c5 := norm_c (-1) (i64_lit (by decide))
  rw [h1] at c1; rw [h2] at c2; rw [h3] at c3; rw [h4] at c4
  have C1 := Lib.hid c1; have C2 := Lib.hid c2; have C3 := Lib.hid c3; have C4 := Lib.hid c4; have C5 := Lib.hid c5
  clear h1 h2 h3 h4 c1 c2 c3 c4 c5
  go_enter Try.func46, Try.ntmps46
  go_wp2_with fail
  (with_reducible refine (C1.out _).mono ?_); rintro e w1 ⟨rfl, g1⟩
  have G1 := Lib.hid g1
  clear g1
  go_wp2_with fail
  (with_reducible refine (C2.out _).mono ?_); rintro e w' ⟨rfl, n2, rfl⟩
  go_wp2_with fail
  (with_reducible refine (C3.out _).mono ?_); rintro e w' ⟨rfl, n3, rfl⟩
  go_wp2_with fail
  (with_reducible refine (C4.out _).mono ?_); rintro e w' ⟨rfl, n4, rfl⟩
  go_wp2_with fail
  (with_reducible refine (C5.out _).mono ?_); rintro e w' ⟨rfl, n5, rfl⟩
  go_wp2_with fail
  go_ret
  exact ⟨rfl, Grown.drewN G1.out _⟩
end Go.Proofs.Ytdkaaifbmjnknaa
