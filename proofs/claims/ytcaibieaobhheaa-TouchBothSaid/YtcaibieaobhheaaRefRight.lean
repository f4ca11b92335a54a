/- The reference's boxes and bodies. -/
import Derived.Test.YtcaibieaobhheaaRefVec
import Derived.Deep.RegionHeld2
import Derived.Deep.DrawnRows
namespace Go.Proofs.Ytcaibieaobhheaa
open Go.RowKit M
set_option maxRecDepth 100000
set_option maxHeartbeats 4000000
set_option linter.unusedVariables false
set_option linter.unusedSimpArgs false
attribute [local go_sem ↓] Go.wp_at_zero Go.wp_at_succ
theorem refMeet_x (a b : Bx) (w : World) :
    Calls Try.prog 22 #[.agg #[.int .i64 a.lx, .int .i64 a.ly, .int .i64 a.hx, .int .i64 a.hy], .agg #[.int .i64 b.lx, .int .i64 b.ly, .int .i64 b.hx, .int .i64 b.hy]] w fun en w' => en = .returned (.bool (meetB a b)) ∧ Bw w w' := by
  go_enter Try.func22, Try.ntmps22
  go_wp2
  all_goals
    go_ret
    exact ⟨rb (by simp [meetB]; try omega), by (repeat (with_reducible refine M.Below.drewN ?_ _)); go_grown⟩
theorem refSize_x (a : Int) (w : World) :
    Calls Try.prog 55 #[.int .i64 a] w fun en w' => en = .returned (.bool (inB a 67108864 4294967296000)) ∧ Dr w w' := by
  go_enter Try.func55, Try.ntmps55
  go_wp2
  all_goals
    go_ret
    exact ⟨rb (by unfold inB; simp; try omega), Dr.refl _⟩
theorem refWithin_x (a n : Int) (h : 0 ≤ n ∧ n ≤ 1000000) (w : World) :
    Calls Try.prog 56 #[.int .i64 a, .int .i64 n] w fun en w' => en = .returned (.bool (inB a (-(n * 4294967296)) (n * 4294967296))) ∧ Dr w w' := by
  have h1 := h.1
  have h2 := h.2
  clear h
  go_enter Try.func56, Try.ntmps56
  go_wp2
  all_goals
    go_ret
    exact ⟨rb (by unfold inB; simp; try omega), Dr.refl _⟩
theorem refRight_x (b : Bd) (w : World) :
    Calls Try.prog 15 #[.agg #[.int .i64 b.shape, .int .i64 b.sx, .int .i64 b.sy, .int .i64 b.mass, .int .i64 b.px, .int .i64 b.py, .int .i64 b.mx, .int .i64 b.my]] w fun en w' => en = .returned (.bool (rightB b)) ∧ Bw w w' := by
  obtain ⟨sh, sx, sy, ma, px, py, mx, my⟩ := b
  dsimp only
  have r1 := refSize_x sx
  have r2 := refSize_x sy
  have r3 := refWithin_x px 10000 (by omega)
  have r4 := refWithin_x py 10000 (by omega)
  have r5 := refWithin_x mx 1000000 (by omega)
  have r6 := refWithin_x my 1000000 (by omega)
  rw [show (10000 : Int) * 4294967296 = 42949672960000 by rfl] at r3 r4
  rw [show (1000000 : Int) * 4294967296 = 4294967296000000 by rfl] at r5 r6
  generalize h1 : inB sx 67108864 4294967296000 = A1 at r1
  generalize h2 : inB sy 67108864 4294967296000 = A2 at r2
  generalize h3 : inB px (-42949672960000) 42949672960000 = A3 at r3
  generalize h4 : inB py (-42949672960000) 42949672960000 = A4 at r4
  generalize h5 : inB mx (-4294967296000000) 4294967296000000 = A5 at r5
  generalize h6 : inB my (-4294967296000000) 4294967296000000 = A6 at r6
  have R1 := Lib.hid r1; have R2 := Lib.hid r2; have R3 := Lib.hid r3; have R4 := Lib.hid r4; have R5 := Lib.hid r5; have R6 := Lib.hid r6
  have H1 := Lib.hid h1; have H2 := Lib.hid h2; have H3 := Lib.hid h3; have H4 := Lib.hid h4; have H5 := Lib.hid h5; have H6 := Lib.hid h6
  clear r1 r2 r3 r4 r5 r6 h1 h2 h3 h4 h5 h6
  go_enter Try.func15, Try.ntmps15
  go_wp2_with (first | ((with_reducible refine (R1.out _).mono ?_); rintro en w' ⟨rfl, _, rfl⟩; cases A1) | ((with_reducible refine (R2.out _).mono ?_); rintro en w' ⟨rfl, _, rfl⟩; cases A2) | ((with_reducible refine (R3.out _).mono ?_); rintro en w' ⟨rfl, _, rfl⟩; cases A3) | ((with_reducible refine (R4.out _).mono ?_); rintro en w' ⟨rfl, _, rfl⟩; cases A4) | ((with_reducible refine (R5.out _).mono ?_); rintro en w' ⟨rfl, _, rfl⟩; cases A5) | ((with_reducible refine (R6.out _).mono ?_); rintro en w' ⟨rfl, _, rfl⟩; cases A6))
  all_goals
    go_ret
    exact ⟨rb (by have h1 := H1.out; have h2 := H2.out; have h3 := H3.out; have h4 := H4.out; have h5 := H5.out; have h6 := H6.out; simp [rightB, *]; try (unfold inB; simp; try omega)), by (repeat (with_reducible refine M.Below.drewN ?_ _)); go_grown⟩
end Go.Proofs.Ytcaibieaobhheaa
