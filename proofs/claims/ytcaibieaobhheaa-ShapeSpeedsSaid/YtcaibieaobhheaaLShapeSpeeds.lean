/- For every body and number ShapeSpeeds returns true: twice as heavy is half as fast; what has no mass does not move, and is not light. -/
import Derived.Test.YtcaibieaobhheaaRows
import Derived.WalkKit
import Derived.ProofKit
import Derived.OpenShut
import Derived.Test.YtcaibieaobhheaaFacts
import Derived.Test.YtcaibieaobhheaaArgs
import Derived.Test.YtcaibieaobhheaaClo7b
import Derived.Test.YtcaibieaobhheaaShapeAlive
import Derived.Deep.RegionHeld2
import Derived.Deep.DrawnRows
namespace Go.Proofs.Ytcaibieaobhheaa.shapeSpeeds
open Go.ChangeShapes Go.WideShapes Go.ChangeAt Go.RowKit M
set_option maxRecDepth 100000
set_option maxHeartbeats 8000000
set_option linter.unusedVariables false
set_option linter.unusedSimpArgs false
attribute [local go_sem ↓] Go.wp_at_zero Go.wp_at_succ
theorem own : ownKnob Try.prog.godebug = none := by kernel_rfl

/-- The walk: the Go text returns true; of what was there nothing turns. -/
theorem walk (w : World) (b : Bd) (hb : b.ok) (n : Int) (hn : I64 n) :
    Calls Try.prog 14 #[.agg #[.int .i64 b.shape, .int .i64 b.sx, .int .i64 b.sy, .int .i64 b.mass, .int .i64 b.px, .int .i64 b.py, .int .i64 b.mx, .int .i64 b.my], .int .i64 n] w fun e w' => e = .returned (.bool true) ∧ Bw w w' := by
  have c0 := Lib.hid alive7_c
  have hB := hb
  by_cases hg : 1 ≤ n ∧ n ≤ 1000
  rotate_left
  · have h0 : n < 1 ∨ (¬ n < 1 ∧ 1000 < n) := by omega
    clear hg
    rcases h0 with h1 | ⟨h1, h2⟩
    · skip
      go_enter Try.func14, Try.ntmps14
      go_wp2_with fail
      (with_reducible refine (c0.out _).mono ?_); rintro en w1 ⟨rfl, hb⟩
      have G1 : Below w.heap.size w w1 := Below.trans (by (repeat (with_reducible refine M.Below.drewN ?_ _)); go_grown) (hb.mono (by go_size))
      have V1_b : M.Var w1 (w.heap.size) #[.int .i64 b.shape, .int .i64 b.sx, .int .i64 b.sy, .int .i64 b.mass, .int .i64 b.px, .int .i64 b.py, .int .i64 b.mx, .int .i64 b.my] := M.Var.mono (by (repeat (first | (with_reducible assumption) | (with_reducible apply M.var_set45) | (with_reducible refine M.var_alloc' _ _ _ ?_; first | rfl | (simp [go_sem]; done)) | (with_reducible refine M.Var.alloc ?_ _) | (with_reducible refine M.Var.drewN ?_ _) | (with_reducible refine M.Var.drew ?_) | (with_reducible refine M.Var.far ?_ _ _ ?hFar; case hFar => (first | omega | ((try simp [go_sem]) <;> omega))) | fail))) hb
      have q1_b_0 : w1.cell? ⟨w.heap.size, 0, none⟩ = some (.int .i64 b.shape) := V1_b.c 0 _ rfl
      have q1_b_1 : w1.cell? ⟨w.heap.size, 1, none⟩ = some (.int .i64 b.sx) := V1_b.c 1 _ rfl
      have q1_b_2 : w1.cell? ⟨w.heap.size, 2, none⟩ = some (.int .i64 b.sy) := V1_b.c 2 _ rfl
      have q1_b_3 : w1.cell? ⟨w.heap.size, 3, none⟩ = some (.int .i64 b.mass) := V1_b.c 3 _ rfl
      have q1_b_4 : w1.cell? ⟨w.heap.size, 4, none⟩ = some (.int .i64 b.px) := V1_b.c 4 _ rfl
      have q1_b_5 : w1.cell? ⟨w.heap.size, 5, none⟩ = some (.int .i64 b.py) := V1_b.c 5 _ rfl
      have q1_b_6 : w1.cell? ⟨w.heap.size, 6, none⟩ = some (.int .i64 b.mx) := V1_b.c 6 _ rfl
      have q1_b_7 : w1.cell? ⟨w.heap.size, 7, none⟩ = some (.int .i64 b.my) := V1_b.c 7 _ rfl
      have f1_b := V1_b.2.2; have L1_b := V1_b.lt; have N1_b := Nat.ne_of_gt L1_b; have M1_b := Nat.ne_of_lt L1_b
      have HV1_b := Lib.hid V1_b
      have S1 := G1.size; clear hb
      go_wp2_with fail
      go_ret
      exact ⟨rfl, by (repeat (with_reducible refine M.Below.drewN ?_ _)); go_grown⟩
    · skip
      go_enter Try.func14, Try.ntmps14
      go_wp2_with fail
      (with_reducible refine (c0.out _).mono ?_); rintro en w1 ⟨rfl, hb⟩
      have G1 : Below w.heap.size w w1 := Below.trans (by (repeat (with_reducible refine M.Below.drewN ?_ _)); go_grown) (hb.mono (by go_size))
      have V1_b : M.Var w1 (w.heap.size) #[.int .i64 b.shape, .int .i64 b.sx, .int .i64 b.sy, .int .i64 b.mass, .int .i64 b.px, .int .i64 b.py, .int .i64 b.mx, .int .i64 b.my] := M.Var.mono (by (repeat (first | (with_reducible assumption) | (with_reducible apply M.var_set45) | (with_reducible refine M.var_alloc' _ _ _ ?_; first | rfl | (simp [go_sem]; done)) | (with_reducible refine M.Var.alloc ?_ _) | (with_reducible refine M.Var.drewN ?_ _) | (with_reducible refine M.Var.drew ?_) | (with_reducible refine M.Var.far ?_ _ _ ?hFar; case hFar => (first | omega | ((try simp [go_sem]) <;> omega))) | fail))) hb
      have q1_b_0 : w1.cell? ⟨w.heap.size, 0, none⟩ = some (.int .i64 b.shape) := V1_b.c 0 _ rfl
      have q1_b_1 : w1.cell? ⟨w.heap.size, 1, none⟩ = some (.int .i64 b.sx) := V1_b.c 1 _ rfl
      have q1_b_2 : w1.cell? ⟨w.heap.size, 2, none⟩ = some (.int .i64 b.sy) := V1_b.c 2 _ rfl
      have q1_b_3 : w1.cell? ⟨w.heap.size, 3, none⟩ = some (.int .i64 b.mass) := V1_b.c 3 _ rfl
      have q1_b_4 : w1.cell? ⟨w.heap.size, 4, none⟩ = some (.int .i64 b.px) := V1_b.c 4 _ rfl
      have q1_b_5 : w1.cell? ⟨w.heap.size, 5, none⟩ = some (.int .i64 b.py) := V1_b.c 5 _ rfl
      have q1_b_6 : w1.cell? ⟨w.heap.size, 6, none⟩ = some (.int .i64 b.mx) := V1_b.c 6 _ rfl
      have q1_b_7 : w1.cell? ⟨w.heap.size, 7, none⟩ = some (.int .i64 b.my) := V1_b.c 7 _ rfl
      have f1_b := V1_b.2.2; have L1_b := V1_b.lt; have N1_b := Nat.ne_of_gt L1_b; have M1_b := Nat.ne_of_lt L1_b
      have HV1_b := Lib.hid V1_b
      have S1 := G1.size; clear hb
      go_wp2_with fail
      go_ret
      exact ⟨rfl, by (repeat (with_reducible refine M.Below.drewN ?_ _)); go_grown⟩
  obtain ⟨g1, g2⟩ := hg
  go_enter Try.func14, Try.ntmps14
  go_wp2_with fail
  (with_reducible refine (c0.out _).mono ?_); rintro en w1 ⟨rfl, hb⟩
  have G1 : Below w.heap.size w w1 := Below.trans (by (repeat (with_reducible refine M.Below.drewN ?_ _)); go_grown) (hb.mono (by go_size))
  have V1_b : M.Var w1 (w.heap.size) #[.int .i64 b.shape, .int .i64 b.sx, .int .i64 b.sy, .int .i64 b.mass, .int .i64 b.px, .int .i64 b.py, .int .i64 b.mx, .int .i64 b.my] := M.Var.mono (by (repeat (first | (with_reducible assumption) | (with_reducible apply M.var_set45) | (with_reducible refine M.var_alloc' _ _ _ ?_; first | rfl | (simp [go_sem]; done)) | (with_reducible refine M.Var.alloc ?_ _) | (with_reducible refine M.Var.drewN ?_ _) | (with_reducible refine M.Var.drew ?_) | (with_reducible refine M.Var.far ?_ _ _ ?hFar; case hFar => (first | omega | ((try simp [go_sem]) <;> omega))) | fail))) hb
  have q1_b_0 : w1.cell? ⟨w.heap.size, 0, none⟩ = some (.int .i64 b.shape) := V1_b.c 0 _ rfl
  have q1_b_1 : w1.cell? ⟨w.heap.size, 1, none⟩ = some (.int .i64 b.sx) := V1_b.c 1 _ rfl
  have q1_b_2 : w1.cell? ⟨w.heap.size, 2, none⟩ = some (.int .i64 b.sy) := V1_b.c 2 _ rfl
  have q1_b_3 : w1.cell? ⟨w.heap.size, 3, none⟩ = some (.int .i64 b.mass) := V1_b.c 3 _ rfl
  have q1_b_4 : w1.cell? ⟨w.heap.size, 4, none⟩ = some (.int .i64 b.px) := V1_b.c 4 _ rfl
  have q1_b_5 : w1.cell? ⟨w.heap.size, 5, none⟩ = some (.int .i64 b.py) := V1_b.c 5 _ rfl
  have q1_b_6 : w1.cell? ⟨w.heap.size, 6, none⟩ = some (.int .i64 b.mx) := V1_b.c 6 _ rfl
  have q1_b_7 : w1.cell? ⟨w.heap.size, 7, none⟩ = some (.int .i64 b.my) := V1_b.c 7 _ rfl
  have f1_b := V1_b.2.2; have L1_b := V1_b.lt; have N1_b := Nat.ne_of_gt L1_b; have M1_b := Nat.ne_of_lt L1_b
  have HV1_b := Lib.hid V1_b
  have S1 := G1.size; clear hb
  go_wp2_with fail
  refine (try_c 52 #[.pointer (some ⟨w.heap.size, 0, none⟩), .pointer (some ⟨w1.heap.size, 0, none⟩), .pointer (some ⟨w1.heap.size + 1, 0, none⟩), .pointer (some ⟨w1.heap.size + 1 + 1, 0, none⟩), .pointer (some ⟨w1.heap.size + 1 + 1 + 1, 0, none⟩)] _ (0) (usV (w1.heap.size) (.ok (17179869184, -4294967296)) ++ [(⟨w.heap.size, 3, none⟩, .int .i64 (n * 4294967296 * 2))] ++ usV (w1.heap.size + 1) (.ok (8589934592, -2147483648)) ++ [(⟨w.heap.size, 3, none⟩, .int .i64 0)] ++ usV (w1.heap.size + 1 + 1) (.ok (0, 0)) ++ usI (w1.heap.size + 1 + 1 + 1) (.ok 0)) (fun _ => rfl) ?_ ?_).mono ?_
  · intro u hu; (try simp only [List.mem_append] at hu); (repeat' (obtain hu | hu := (hu : _ ∨ _))); all_goals (first | with_reducible rw [M.cell_block1 hu] | with_reducible rw [M.usBx_block hu] | with_reducible rw [M.usV_block hu] | with_reducible rw [M.usI_block hu] | with_reducible rw [M.usHt_block hu] | with_reducible rw [M.usBd_block hu] | with_reducible rw [M.usB_block hu] | rw [M.cell_block1 hu] | (exfalso; simp at hu; done)); all_goals ((try simp [go_sem]) <;> omega)
  · intro w1' hb; exact (cloSp _ _ _ _ _ b hB n g1 g2 w1' (M.Var.mono (b := w.heap.size) (cs := #[.int .i64 b.shape, .int .i64 b.sx, .int .i64 b.sy, .int .i64 (n * 4294967296), .int .i64 b.px, .int .i64 b.py, .int .i64 (n * 4294967296 * 4), .int .i64 (-n * 4294967296)]) (by (repeat (first | (with_reducible assumption) | (with_reducible apply M.var_setV) | (with_reducible apply M.var_setI) | (with_reducible apply M.var_setB) | (with_reducible apply M.var_setHt) | (with_reducible apply M.var_setBd) | (with_reducible apply M.var_set2) | (with_reducible apply M.var_set3) | (with_reducible apply M.var_set4) | (with_reducible apply M.var_set45) | (with_reducible apply M.var_set67) | (with_reducible apply M.var_setF) | (with_reducible refine M.var_alloc' _ _ _ ?_; first | rfl | (focus (simp [go_sem]; done))) | (with_reducible refine M.Var.alloc ?_ _) | (with_reducible refine M.Var.drewN ?_ _) | (with_reducible refine M.Var.drew ?_) | (with_reducible refine M.Var.far ?_ _ _ ?hFar; case hFar => (first | omega | ((try simp [go_sem]) <;> omega))) | fail))) hb) (M.Var.mono (b := w1.heap.size) (cs := #[.int .i64 0, .int .i64 0]) (by (repeat (first | (with_reducible assumption) | (with_reducible apply M.var_set45) | (with_reducible refine M.var_alloc' _ _ _ ?_; first | rfl | (simp [go_sem]; done)) | (with_reducible refine M.Var.alloc ?_ _) | (with_reducible refine M.Var.drewN ?_ _) | (with_reducible refine M.Var.drew ?_) | (with_reducible refine M.Var.far ?_ _ _ ?hFar; case hFar => (first | omega | ((try simp [go_sem]) <;> omega))) | fail))) hb) (M.Var.mono (b := w1.heap.size + 1) (cs := #[.int .i64 0, .int .i64 0]) (by (repeat (first | (with_reducible assumption) | (with_reducible apply M.var_set45) | (with_reducible refine M.var_alloc' _ _ _ ?_; first | rfl | (simp [go_sem]; done)) | (with_reducible refine M.Var.alloc ?_ _) | (with_reducible refine M.Var.drewN ?_ _) | (with_reducible refine M.Var.drew ?_) | (with_reducible refine M.Var.far ?_ _ _ ?hFar; case hFar => (first | omega | ((try simp [go_sem]) <;> omega))) | fail))) hb) (M.Var.mono (b := w1.heap.size + 1 + 1) (cs := #[.int .i64 0, .int .i64 0]) (by (repeat (first | (with_reducible assumption) | (with_reducible apply M.var_set45) | (with_reducible refine M.var_alloc' _ _ _ ?_; first | rfl | (simp [go_sem]; done)) | (with_reducible refine M.Var.alloc ?_ _) | (with_reducible refine M.Var.drewN ?_ _) | (with_reducible refine M.Var.drew ?_) | (with_reducible refine M.Var.far ?_ _ _ ?hFar; case hFar => (first | omega | ((try simp [go_sem]) <;> omega))) | fail))) hb) (M.Var.mono (b := w1.heap.size + 1 + 1 + 1) (cs := #[.int .i64 0]) (by (repeat (first | (with_reducible assumption) | (with_reducible apply M.var_set45) | (with_reducible refine M.var_alloc' _ _ _ ?_; first | rfl | (simp [go_sem]; done)) | (with_reducible refine M.Var.alloc ?_ _) | (with_reducible refine M.Var.drewN ?_ _) | (with_reducible refine M.Var.drew ?_) | (with_reducible refine M.Var.far ?_ _ _ ?hFar; case hFar => (first | omega | ((try simp [go_sem]) <;> omega))) | fail))) hb) (by omega) (by omega) (by omega) (by omega)).mono fun e w' h => h
  rintro en w2 ⟨rfl, hb⟩
  have G2 : Below w.heap.size w w2 := by refine Below.trans ?_ (hb.mono (by go_size)); exact M.below_sets_own _ (by (repeat (with_reducible refine M.Below.drewN ?_ _)); go_grown) (by intro u hu; (try simp only [List.mem_append] at hu); (repeat' (obtain hu | hu := (hu : _ ∨ _))); all_goals (first | with_reducible rw [M.cell_block1 hu] | with_reducible rw [M.usBx_block hu] | with_reducible rw [M.usV_block hu] | with_reducible rw [M.usI_block hu] | with_reducible rw [M.usHt_block hu] | with_reducible rw [M.usBd_block hu] | with_reducible rw [M.usB_block hu] | rw [M.cell_block1 hu] | (exfalso; simp at hu; done)); all_goals ((try simp [go_sem]) <;> omega))
  have V2_v : M.Var w2 (w1.heap.size) #[.int .i64 17179869184, .int .i64 (-4294967296)] := by refine M.Var.mono' ?_ (M.sets_size _ _) hb; (try simp only [M.sets_append]); exact (M.var_sets_far _ (M.var_sets_far _ (M.var_sets_far _ (M.var_sets_far _ (M.var_sets_far _ (M.var_setV (by (repeat (first | (with_reducible assumption) | (with_reducible apply M.var_set45) | (with_reducible refine M.var_alloc' _ _ _ ?_; first | rfl | (simp [go_sem]; done)) | (with_reducible refine M.Var.alloc ?_ _) | (with_reducible refine M.Var.drewN ?_ _) | (with_reducible refine M.Var.drew ?_) | (with_reducible refine M.Var.far ?_ _ _ ?hFar; case hFar => (first | omega | ((try simp [go_sem]) <;> omega))) | fail)) : M.Var _ (w1.heap.size) #[.int .i64 0, .int .i64 0]) _ _) (by intro u hu; all_goals (first | with_reducible rw [M.cell_block1 hu] | with_reducible rw [M.usBx_block hu] | with_reducible rw [M.usV_block hu] | with_reducible rw [M.usI_block hu] | with_reducible rw [M.usHt_block hu] | with_reducible rw [M.usBd_block hu] | with_reducible rw [M.usB_block hu] | rw [M.cell_block1 hu] | (exfalso; simp at hu; done)); all_goals ((try simp [go_sem]) <;> omega))) (by intro u hu; all_goals (first | with_reducible rw [M.cell_block1 hu] | with_reducible rw [M.usBx_block hu] | with_reducible rw [M.usV_block hu] | with_reducible rw [M.usI_block hu] | with_reducible rw [M.usHt_block hu] | with_reducible rw [M.usBd_block hu] | with_reducible rw [M.usB_block hu] | rw [M.cell_block1 hu] | (exfalso; simp at hu; done)); all_goals ((try simp [go_sem]) <;> omega))) (by intro u hu; all_goals (first | with_reducible rw [M.cell_block1 hu] | with_reducible rw [M.usBx_block hu] | with_reducible rw [M.usV_block hu] | with_reducible rw [M.usI_block hu] | with_reducible rw [M.usHt_block hu] | with_reducible rw [M.usBd_block hu] | with_reducible rw [M.usB_block hu] | rw [M.cell_block1 hu] | (exfalso; simp at hu; done)); all_goals ((try simp [go_sem]) <;> omega))) (by intro u hu; all_goals (first | with_reducible rw [M.cell_block1 hu] | with_reducible rw [M.usBx_block hu] | with_reducible rw [M.usV_block hu] | with_reducible rw [M.usI_block hu] | with_reducible rw [M.usHt_block hu] | with_reducible rw [M.usBd_block hu] | with_reducible rw [M.usB_block hu] | rw [M.cell_block1 hu] | (exfalso; simp at hu; done)); all_goals ((try simp [go_sem]) <;> omega))) (by intro u hu; all_goals (first | with_reducible rw [M.cell_block1 hu] | with_reducible rw [M.usBx_block hu] | with_reducible rw [M.usV_block hu] | with_reducible rw [M.usI_block hu] | with_reducible rw [M.usHt_block hu] | with_reducible rw [M.usBd_block hu] | with_reducible rw [M.usB_block hu] | rw [M.cell_block1 hu] | (exfalso; simp at hu; done)); all_goals ((try simp [go_sem]) <;> omega)))
  have V2_u : M.Var w2 (w1.heap.size + 1) #[.int .i64 8589934592, .int .i64 (-2147483648)] := by refine M.Var.mono' ?_ (M.sets_size _ _) hb; (try simp only [M.sets_append]); exact (M.var_sets_far _ (M.var_sets_far _ (M.var_sets_far _ (M.var_setV (M.var_sets_far _ (M.var_sets_far _ (by (repeat (first | (with_reducible assumption) | (with_reducible apply M.var_set45) | (with_reducible refine M.var_alloc' _ _ _ ?_; first | rfl | (simp [go_sem]; done)) | (with_reducible refine M.Var.alloc ?_ _) | (with_reducible refine M.Var.drewN ?_ _) | (with_reducible refine M.Var.drew ?_) | (with_reducible refine M.Var.far ?_ _ _ ?hFar; case hFar => (first | omega | ((try simp [go_sem]) <;> omega))) | fail)) : M.Var _ (w1.heap.size + 1) #[.int .i64 0, .int .i64 0]) (by intro u hu; all_goals (first | with_reducible rw [M.cell_block1 hu] | with_reducible rw [M.usBx_block hu] | with_reducible rw [M.usV_block hu] | with_reducible rw [M.usI_block hu] | with_reducible rw [M.usHt_block hu] | with_reducible rw [M.usBd_block hu] | with_reducible rw [M.usB_block hu] | rw [M.cell_block1 hu] | (exfalso; simp at hu; done)); all_goals ((try simp [go_sem]) <;> omega))) (by intro u hu; all_goals (first | with_reducible rw [M.cell_block1 hu] | with_reducible rw [M.usBx_block hu] | with_reducible rw [M.usV_block hu] | with_reducible rw [M.usI_block hu] | with_reducible rw [M.usHt_block hu] | with_reducible rw [M.usBd_block hu] | with_reducible rw [M.usB_block hu] | rw [M.cell_block1 hu] | (exfalso; simp at hu; done)); all_goals ((try simp [go_sem]) <;> omega))) _ _) (by intro u hu; all_goals (first | with_reducible rw [M.cell_block1 hu] | with_reducible rw [M.usBx_block hu] | with_reducible rw [M.usV_block hu] | with_reducible rw [M.usI_block hu] | with_reducible rw [M.usHt_block hu] | with_reducible rw [M.usBd_block hu] | with_reducible rw [M.usB_block hu] | rw [M.cell_block1 hu] | (exfalso; simp at hu; done)); all_goals ((try simp [go_sem]) <;> omega))) (by intro u hu; all_goals (first | with_reducible rw [M.cell_block1 hu] | with_reducible rw [M.usBx_block hu] | with_reducible rw [M.usV_block hu] | with_reducible rw [M.usI_block hu] | with_reducible rw [M.usHt_block hu] | with_reducible rw [M.usBd_block hu] | with_reducible rw [M.usB_block hu] | rw [M.cell_block1 hu] | (exfalso; simp at hu; done)); all_goals ((try simp [go_sem]) <;> omega))) (by intro u hu; all_goals (first | with_reducible rw [M.cell_block1 hu] | with_reducible rw [M.usBx_block hu] | with_reducible rw [M.usV_block hu] | with_reducible rw [M.usI_block hu] | with_reducible rw [M.usHt_block hu] | with_reducible rw [M.usBd_block hu] | with_reducible rw [M.usB_block hu] | rw [M.cell_block1 hu] | (exfalso; simp at hu; done)); all_goals ((try simp [go_sem]) <;> omega)))
  have V2_z : M.Var w2 (w1.heap.size + 1 + 1) #[.int .i64 0, .int .i64 0] := by refine M.Var.mono' ?_ (M.sets_size _ _) hb; (try simp only [M.sets_append]); exact (M.var_sets_far _ (M.var_setV (M.var_sets_far _ (M.var_sets_far _ (M.var_sets_far _ (M.var_sets_far _ (by (repeat (first | (with_reducible assumption) | (with_reducible apply M.var_set45) | (with_reducible refine M.var_alloc' _ _ _ ?_; first | rfl | (simp [go_sem]; done)) | (with_reducible refine M.Var.alloc ?_ _) | (with_reducible refine M.Var.drewN ?_ _) | (with_reducible refine M.Var.drew ?_) | (with_reducible refine M.Var.far ?_ _ _ ?hFar; case hFar => (first | omega | ((try simp [go_sem]) <;> omega))) | fail)) : M.Var _ (w1.heap.size + 1 + 1) #[.int .i64 0, .int .i64 0]) (by intro u hu; all_goals (first | with_reducible rw [M.cell_block1 hu] | with_reducible rw [M.usBx_block hu] | with_reducible rw [M.usV_block hu] | with_reducible rw [M.usI_block hu] | with_reducible rw [M.usHt_block hu] | with_reducible rw [M.usBd_block hu] | with_reducible rw [M.usB_block hu] | rw [M.cell_block1 hu] | (exfalso; simp at hu; done)); all_goals ((try simp [go_sem]) <;> omega))) (by intro u hu; all_goals (first | with_reducible rw [M.cell_block1 hu] | with_reducible rw [M.usBx_block hu] | with_reducible rw [M.usV_block hu] | with_reducible rw [M.usI_block hu] | with_reducible rw [M.usHt_block hu] | with_reducible rw [M.usBd_block hu] | with_reducible rw [M.usB_block hu] | rw [M.cell_block1 hu] | (exfalso; simp at hu; done)); all_goals ((try simp [go_sem]) <;> omega))) (by intro u hu; all_goals (first | with_reducible rw [M.cell_block1 hu] | with_reducible rw [M.usBx_block hu] | with_reducible rw [M.usV_block hu] | with_reducible rw [M.usI_block hu] | with_reducible rw [M.usHt_block hu] | with_reducible rw [M.usBd_block hu] | with_reducible rw [M.usB_block hu] | rw [M.cell_block1 hu] | (exfalso; simp at hu; done)); all_goals ((try simp [go_sem]) <;> omega))) (by intro u hu; all_goals (first | with_reducible rw [M.cell_block1 hu] | with_reducible rw [M.usBx_block hu] | with_reducible rw [M.usV_block hu] | with_reducible rw [M.usI_block hu] | with_reducible rw [M.usHt_block hu] | with_reducible rw [M.usBd_block hu] | with_reducible rw [M.usB_block hu] | rw [M.cell_block1 hu] | (exfalso; simp at hu; done)); all_goals ((try simp [go_sem]) <;> omega))) _ _) (by intro u hu; all_goals (first | with_reducible rw [M.cell_block1 hu] | with_reducible rw [M.usBx_block hu] | with_reducible rw [M.usV_block hu] | with_reducible rw [M.usI_block hu] | with_reducible rw [M.usHt_block hu] | with_reducible rw [M.usBd_block hu] | with_reducible rw [M.usB_block hu] | rw [M.cell_block1 hu] | (exfalso; simp at hu; done)); all_goals ((try simp [go_sem]) <;> omega)))
  have V2_l : M.Var w2 (w1.heap.size + 1 + 1 + 1) #[.int .i64 0] := by refine M.Var.mono' ?_ (M.sets_size _ _) hb; (try simp only [M.sets_append]); exact (M.var_setI (M.var_sets_far _ (M.var_sets_far _ (M.var_sets_far _ (M.var_sets_far _ (M.var_sets_far _ (by (repeat (first | (with_reducible assumption) | (with_reducible apply M.var_set45) | (with_reducible refine M.var_alloc' _ _ _ ?_; first | rfl | (simp [go_sem]; done)) | (with_reducible refine M.Var.alloc ?_ _) | (with_reducible refine M.Var.drewN ?_ _) | (with_reducible refine M.Var.drew ?_) | (with_reducible refine M.Var.far ?_ _ _ ?hFar; case hFar => (first | omega | ((try simp [go_sem]) <;> omega))) | fail)) : M.Var _ (w1.heap.size + 1 + 1 + 1) #[.int .i64 0]) (by intro u hu; all_goals (first | with_reducible rw [M.cell_block1 hu] | with_reducible rw [M.usBx_block hu] | with_reducible rw [M.usV_block hu] | with_reducible rw [M.usI_block hu] | with_reducible rw [M.usHt_block hu] | with_reducible rw [M.usBd_block hu] | with_reducible rw [M.usB_block hu] | rw [M.cell_block1 hu] | (exfalso; simp at hu; done)); all_goals ((try simp [go_sem]) <;> omega))) (by intro u hu; all_goals (first | with_reducible rw [M.cell_block1 hu] | with_reducible rw [M.usBx_block hu] | with_reducible rw [M.usV_block hu] | with_reducible rw [M.usI_block hu] | with_reducible rw [M.usHt_block hu] | with_reducible rw [M.usBd_block hu] | with_reducible rw [M.usB_block hu] | rw [M.cell_block1 hu] | (exfalso; simp at hu; done)); all_goals ((try simp [go_sem]) <;> omega))) (by intro u hu; all_goals (first | with_reducible rw [M.cell_block1 hu] | with_reducible rw [M.usBx_block hu] | with_reducible rw [M.usV_block hu] | with_reducible rw [M.usI_block hu] | with_reducible rw [M.usHt_block hu] | with_reducible rw [M.usBd_block hu] | with_reducible rw [M.usB_block hu] | rw [M.cell_block1 hu] | (exfalso; simp at hu; done)); all_goals ((try simp [go_sem]) <;> omega))) (by intro u hu; all_goals (first | with_reducible rw [M.cell_block1 hu] | with_reducible rw [M.usBx_block hu] | with_reducible rw [M.usV_block hu] | with_reducible rw [M.usI_block hu] | with_reducible rw [M.usHt_block hu] | with_reducible rw [M.usBd_block hu] | with_reducible rw [M.usB_block hu] | rw [M.cell_block1 hu] | (exfalso; simp at hu; done)); all_goals ((try simp [go_sem]) <;> omega))) (by intro u hu; all_goals (first | with_reducible rw [M.cell_block1 hu] | with_reducible rw [M.usBx_block hu] | with_reducible rw [M.usV_block hu] | with_reducible rw [M.usI_block hu] | with_reducible rw [M.usHt_block hu] | with_reducible rw [M.usBd_block hu] | with_reducible rw [M.usB_block hu] | rw [M.cell_block1 hu] | (exfalso; simp at hu; done)); all_goals ((try simp [go_sem]) <;> omega))) _)
  have q2_v_0 : w2.cell? ⟨w1.heap.size, 0, none⟩ = some (.int .i64 17179869184) := V2_v.c 0 _ rfl
  have q2_v_1 : w2.cell? ⟨w1.heap.size, 1, none⟩ = some (.int .i64 (-4294967296)) := V2_v.c 1 _ rfl
  have f2_v := V2_v.2.2; have L2_v := V2_v.lt; have N2_v := Nat.ne_of_gt L2_v; have M2_v := Nat.ne_of_lt L2_v
  have HV2_v := Lib.hid V2_v
  have q2_u_0 : w2.cell? ⟨w1.heap.size + 1, 0, none⟩ = some (.int .i64 8589934592) := V2_u.c 0 _ rfl
  have q2_u_1 : w2.cell? ⟨w1.heap.size + 1, 1, none⟩ = some (.int .i64 (-2147483648)) := V2_u.c 1 _ rfl
  have f2_u := V2_u.2.2; have L2_u := V2_u.lt; have N2_u := Nat.ne_of_gt L2_u; have M2_u := Nat.ne_of_lt L2_u
  have HV2_u := Lib.hid V2_u
  have q2_z_0 : w2.cell? ⟨w1.heap.size + 1 + 1, 0, none⟩ = some (.int .i64 0) := V2_z.c 0 _ rfl
  have q2_z_1 : w2.cell? ⟨w1.heap.size + 1 + 1, 1, none⟩ = some (.int .i64 0) := V2_z.c 1 _ rfl
  have f2_z := V2_z.2.2; have L2_z := V2_z.lt; have N2_z := Nat.ne_of_gt L2_z; have M2_z := Nat.ne_of_lt L2_z
  have HV2_z := Lib.hid V2_z
  have q2_l_0 : w2.cell? ⟨w1.heap.size + 1 + 1 + 1, 0, none⟩ = some (.int .i64 0) := V2_l.c 0 _ rfl
  have f2_l := V2_l.2.2; have L2_l := V2_l.lt; have N2_l := Nat.ne_of_gt L2_l; have M2_l := Nat.ne_of_lt L2_l
  have HV2_l := Lib.hid V2_l
  have S2 := G2.size; clear hb
  go_wp2_with fail
  go_ret
  exact ⟨rfl, by (repeat (with_reducible refine M.Below.drewN ?_ _)); go_grown⟩

theorem lifted (os : Os) (started : os.Started) (H : Type) (enc : TypeId × Value → H) :
    ReturnsInHanded {} Try.checked os 14 .any (Rows.shapeSpeedsSpec.pre6 enc Try.prog Try.f14 Rows.shapeSpeedsRow.domain false) (Rows.shapeSpeedsSpec.post enc Try.prog Try.f14 false true false false) := by
  refine returnsInHanded_of_change (C := Try.checked) own started (by kernel_rfl) Try.func14
    (ChangeSpec.witness6 (enc := enc) (C := Try.checked) false ⟨#[], #[.agg #[.int .i64 0, .int .i64 0, .int .i64 0, .int .i64 0, .int .i64 0, .int .i64 0, .int .i64 0, .int .i64 0], .int .i64 0], []⟩ 8 (by kernel_rfl) (by kernel_rfl) (by kernel_rfl) (by kernel_rfl)) ?_
  intro W base args ds gs before hval0 hW hcnd _
  have hval : ∀ (j : Nat) t v, Try.f14.params[j]? = some t → args[j]? = some v → Value.okWide Try.prog W .any base t v := hval0
  have hW' := hW
  obtain ⟨p, q, hA0, hV, rfl, hfz, hnd⟩ := hW
  have hA : DataW.TrodAll enc Try.prog W 0 (fun _ => true) true Try.f14.params.toList args.toList ds p := hA0
  rw [Try.params14] at hA hval
  obtain ⟨v0, vs0, d0, ds0, p0, q0, hargs, rfl, rfl, h0, r0⟩ := trodAll_cons hA
  obtain ⟨v1, vs1, d1, ds1, p1, q1, rfl, rfl, rfl, h1, r1⟩ := trodAll_cons r0
  obtain ⟨rfl, rfl, rfl⟩ := trodAll_nil r1
  obtain rfl : args = #[v0, v1] := by cases args; simp_all
  obtain ⟨rfl, rfl⟩ := trodVars_none hV
  obtain ⟨b, rfl, rfl, rfl, wb⟩ := open_body (hval 0 26 v0 rfl rfl) h0
  obtain ⟨n, rfl, rfl, rfl, wn⟩ := open_int Try.underlying3 (hval 1 3 v1 rfl rfl) h1
  clear hA0 hval0
  simp only [List.append_nil] at hW'
  refine (walk W b wb.ok n (i64_wf wn)).mono fun e W' ⟨he, hg⟩ => ?_
  subst he
  exact ⟨_, rfl, post_below (pa := []) (pv := []) hW' (fun _ _ _ => (trodAll_cons_mk (shut_bool Try.underlying4 _) trodAll_mk0)) (fun sp hsp => (trodAll_cons_mk (shut_body wb) (trodAll_cons_mk (shut_int Try.underlying3 wn) trodAll_mk0))) (fun _ _ => rfl) rfl
    hg (ok_one (by kernel_rfl) rfl (okWide_bool_mk Try.underlying4 _))⟩

theorem closed : joinedFacts Try.prog 14 Try.f14 Rows.shapeSpeedsSpec Rows.shapeSpeedsRow = true := by
  unfold joinedFacts
  rw [fact_laid, fact_maps, fact_keys, fact_heard, fact_stops, fact_knobs, fact_enter, fact_lifts, fact_make]
  kernel_rfl

theorem over : Rows.shapeSpeedsRow.holds Try.pinned (OpenSpec.ofChange Rows.shapeSpeedsSpec) :=
  OpenClaim.holds_of_wide 14 Try.f14 rfl rfl rfl rfl rfl rfl rfl ⟨rfl, rfl, rfl, rfl, rfl⟩ rfl rfl rfl rfl rfl (by kernel_rfl) Try.func14 closed
    (of_decide_eq_true (by kernel_rfl)) (by unfold Func.isWrapper; first | (rw [if_pos (by decide +kernel)]; kernel_rfl) | (rw [if_neg (by decide +kernel)]; exact ⟨rfl, rfl⟩))
    (fun os started H enc _ => lifted os started H enc)

/-- The statement. -/
theorem proved : Rows.ShapeSpeedsSaid :=
  over
#print axioms proved
end Go.Proofs.Ytcaibieaobhheaa.shapeSpeeds
