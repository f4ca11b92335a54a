/- What fix.Neg, fix.Of and fix.Whole compute. -/
import Derived.Test.YtdkaaifbmjnknaaFix
namespace Go.Proofs.Ytdkaaifbmjnknaa
open Go.RowKit M
set_option maxRecDepth 100000
set_option linter.unusedVariables false

theorem fixNeg_c (a : Int) (ha : I64 a) (w : World) :
    Calls Try.prog 44 #[.int .i64 a] w fun e w' => e = .returned (.tuple #[.int .i64 (subR 0 a).1, .int .i64 (subR 0 a).2]) ∧ Dr w w' := by
  have h0 : I64 0 := by unfold I64; omega
  go_enter Try.func44, Try.ntmps44
  go_wp2_with (go_at_call 37; refine (fixSub_c _ _ h0 ha _).mono ?_; rintro e w' ⟨rfl, n, rfl⟩)
  go_ret2
  exact ⟨rfl, _, rfl⟩

theorem fixOf_c (n : Int) (hn : I64 n) (w : World) :
    Calls Try.prog 38 #[.int .i64 n] w fun e w' => e = .returned (.tuple #[.int .i64 (ofR n).1, .int .i64 (ofR n).2]) ∧ Dr w w' := by
  go_enter Try.func38, Try.ntmps38
  go_wp2
  all_goals
    go_ret2
    refine ⟨rp ?_, Dr.refl _⟩
    first | exact of_1 (by omega) | exact of_2 (by omega)

theorem fixWhole_c (a : Int) (ha : I64 a) (w : World) :
    Calls Try.prog 39 #[.int .i64 a] w fun e w' => e = .returned (.int .i64 (a / 4294967296)) ∧ Dr w w' := by
  go_enter Try.func39, Try.ntmps39
  go_wp2
  go_ret
  exact ⟨r1 rfl, Dr.refl _⟩
end Go.Proofs.Ytdkaaifbmjnknaa
