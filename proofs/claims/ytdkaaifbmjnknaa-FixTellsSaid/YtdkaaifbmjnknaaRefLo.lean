/- What the reference's Sqrt, Whole compute. -/
import Derived.Test.YtdkaaifbmjnknaaRef
import Derived.Test.YtdkaaifbmjnknaaRootLo
namespace Go.Proofs.Ytdkaaifbmjnknaa
open Go.RowKit M
set_option maxRecDepth 100000
set_option maxHeartbeats 1000000
set_option linter.unusedVariables false

theorem refSqrt_c (p : Addr) (e a : Int) (ha : I64 a) (w : World) (hc : w.cell? p = some (.int .i64 e)) (hf : w.frozen? p = false) :
    Calls Try.prog 26 #[.pointer (some p), .int .i64 a] w fun en w' =>
      en = .returned (.int .i64 (thenR e (sqrtR a)).1) ∧ AtE w p (thenR e (sqrtR a)).2 w' := by
  have e3 := Lib.hid (setCell_self hc)
  by_cases he : e = 0
  · subst he
    rw [thenR_zero]
    unfold sqrtR
    by_cases h : a < 0
    · rw [if_pos h]
      have F := fun x w' (hc : w'.cell? p = some (.int .i64 0)) (hf : w'.frozen? p = false) => fail_c p 0 x w' hc hf
      have FH := Lib.hid F
      clear F
      go_enter Try.func26, Try.ntmps26
      go_wp2_with fail
      (with_reducible refine (FH.out _ _ hc hf).mono ?_); rintro e w' ⟨rfl, n4, rfl⟩
      go_wp2_with fail
      go_ret
      exact ⟨rfl, _, rfl⟩
    · rw [if_neg h]
      have S := fun l n h w' (hc : w'.cell? p = some (.int .i64 0)) (hf : w'.frozen? p = false) => signed_c p l n h w' hc hf
      have SH := Lib.hid S
      have e1 : IntKind.u64.wrap a = a := by unfold I64 at ha; simp only [IntKind.wrap_u64]; omega
      have d := decide_eq_false h
      have s := sqrt_small (by omega) ha
      have z := isq_nonneg (a * 4294967296)
      have c1 := refRoot_c (IntKind.u64.wrap a / 4294967296) (IntKind.u64.wrap (IntKind.u64.wrap a * 4294967296)) (by rw [e1]; unfold I64 at ha; unfold U64; omega) (u64_u64 _)
      have e2 : IntKind.u64.wrap a / 4294967296 * 18446744073709551616 + IntKind.u64.wrap (IntKind.u64.wrap a * 4294967296) = a * 4294967296 := by
        rw [e1]; unfold I64 at ha; simp only [IntKind.wrap_u64]; omega
      rw [e2] at c1
      have hw : wholeR false (isq (a * 4294967296)) = (isq (a * 4294967296), 0) := by
        unfold wholeR; simp only [Bool.false_eq_true, if_false]; rw [if_pos (by omega)]
      generalize isq (a * 4294967296) = r at *
      have hu : U64 r := by unfold U64; omega
      have C1 := Lib.hid c1
      have HW := Lib.hid hw
      clear c1 e1 e2 s z h S hw
      go_enter Try.func26, Try.ntmps26
      go_wp2_with fail
      (with_reducible refine (C1.out _).mono ?_); rintro e w' ⟨rfl, n1, rfl⟩
      go_wp2_with fail
      (with_reducible refine (SH.out _ _ hu _ (by go_cell) (by go_cell)).mono ?_); rintro e w' ⟨rfl, n8, rfl⟩
      go_wp2_with fail
      go_ret
      exact ⟨r1 (by rw [HW.out]), ⟨_, by rw [HW.out]⟩⟩
  · have b1 := bne_iff_ne.2 he
    rw [thenR_err he]
    go_enter Try.func26, Try.ntmps26
    go_wp2_with fail
    go_ret
    exact ⟨rfl, 0, e3.out.symm⟩

theorem refWhole_c (a : Int) (ha : I64 a) (w : World) :
    Calls Try.prog 45 #[.int .i64 a] w fun e w' => e = .returned (.int .i64 (a / 4294967296)) ∧ Dr w w' := by
  go_enter Try.func45, Try.ntmps45
  go_wp2
  go_ret
  exact ⟨r1 rfl, Dr.refl _⟩
end Go.Proofs.Ytdkaaifbmjnknaa
