/- For every four numbers PushSlows returns true: two that go towards one another go apart behind a contact, no faster than they came. -/
import Derived.Test.YtcaibieaobhheaaRows
import Derived.WalkKit
import Derived.ProofKit
import Derived.OpenShut
import Derived.Test.YtcaibieaobhheaaFacts
import Derived.Test.YtcaibieaobhheaaArgs
import Derived.Test.YtcaibieaobhheaaClo11b
import Derived.Test.YtcaibieaobhheaaSlowMath
import Derived.Test.YtcaibieaobhheaaPushMath
import Derived.Test.YtcaibieaobhheaaPushAlive
import Derived.Deep.RegionHeld2
import Derived.Deep.DrawnRows
namespace Go.Proofs.Ytcaibieaobhheaa.pushSlows
open Go.ChangeShapes Go.WideShapes Go.ChangeAt Go.RowKit M
set_option maxRecDepth 100000
set_option maxHeartbeats 8000000
set_option linter.unusedVariables false
set_option linter.unusedSimpArgs false
attribute [local go_sem ↓] Go.wp_at_zero Go.wp_at_succ
theorem own : ownKnob Try.prog.godebug = none := by kernel_rfl

/-- The walk: the Go text returns true; of what was there nothing turns. -/
theorem walk (w : World) (x : Int) (hx : I64 x) (y : Int) (hy : I64 y) (m : Int) (hm : I64 m) (n : Int) (hn : I64 n) :
    Calls Try.prog 7 #[.int .i64 x, .int .i64 y, .int .i64 m, .int .i64 n] w fun e w' => e = .returned (.bool true) ∧ Bw w w' := by
  have c0 := Lib.hid alive11_c
  by_cases hg : -100 ≤ x ∧ -100 ≤ y ∧ x ≤ 100 ∧ y ≤ 100 ∧ 1 ≤ m ∧ 1 ≤ n ∧ m ≤ 50 ∧ n ≤ 50
  rotate_left
  · have h0 : x < -100 ∨ (¬ x < -100 ∧ y < -100) ∨ (¬ x < -100 ∧ ¬ y < -100 ∧ 100 < x) ∨ (¬ x < -100 ∧ ¬ y < -100 ∧ ¬ 100 < x ∧ 100 < y) ∨ (¬ x < -100 ∧ ¬ y < -100 ∧ ¬ 100 < x ∧ ¬ 100 < y ∧ m < 1) ∨ (¬ x < -100 ∧ ¬ y < -100 ∧ ¬ 100 < x ∧ ¬ 100 < y ∧ ¬ m < 1 ∧ n < 1) ∨ (¬ x < -100 ∧ ¬ y < -100 ∧ ¬ 100 < x ∧ ¬ 100 < y ∧ ¬ m < 1 ∧ ¬ n < 1 ∧ 50 < m) ∨ (¬ x < -100 ∧ ¬ y < -100 ∧ ¬ 100 < x ∧ ¬ 100 < y ∧ ¬ m < 1 ∧ ¬ n < 1 ∧ ¬ 50 < m ∧ 50 < n) := by omega
    clear hg
    rcases h0 with h1 | ⟨h1, h2⟩ | ⟨h1, h2, h3⟩ | ⟨h1, h2, h3, h4⟩ | ⟨h1, h2, h3, h4, h5⟩ | ⟨h1, h2, h3, h4, h5, h6⟩ | ⟨h1, h2, h3, h4, h5, h6, h7⟩ | ⟨h1, h2, h3, h4, h5, h6, h7, h8⟩
    · skip
      go_enter Try.func7, Try.ntmps7
      go_wp2_with fail
      (with_reducible refine (c0.out _).mono ?_); rintro en w1 ⟨rfl, hb⟩
      have G1 : Below w.heap.size w w1 := Below.trans (by (repeat (with_reducible refine M.Below.drewN ?_ _)); go_grown) (hb.mono (by go_size))
      have S1 := G1.size; clear hb
      go_wp2_with fail
      go_ret
      exact ⟨rfl, by (repeat (with_reducible refine M.Below.drewN ?_ _)); go_grown⟩
    · skip
      go_enter Try.func7, Try.ntmps7
      go_wp2_with fail
      (with_reducible refine (c0.out _).mono ?_); rintro en w1 ⟨rfl, hb⟩
      have G1 : Below w.heap.size w w1 := Below.trans (by (repeat (with_reducible refine M.Below.drewN ?_ _)); go_grown) (hb.mono (by go_size))
      have S1 := G1.size; clear hb
      go_wp2_with fail
      go_ret
      exact ⟨rfl, by (repeat (with_reducible refine M.Below.drewN ?_ _)); go_grown⟩
    · skip
      go_enter Try.func7, Try.ntmps7
      go_wp2_with fail
      (with_reducible refine (c0.out _).mono ?_); rintro en w1 ⟨rfl, hb⟩
      have G1 : Below w.heap.size w w1 := Below.trans (by (repeat (with_reducible refine M.Below.drewN ?_ _)); go_grown) (hb.mono (by go_size))
      have S1 := G1.size; clear hb
      go_wp2_with fail
      go_ret
      exact ⟨rfl, by (repeat (with_reducible refine M.Below.drewN ?_ _)); go_grown⟩
    · skip
      go_enter Try.func7, Try.ntmps7
      go_wp2_with fail
      (with_reducible refine (c0.out _).mono ?_); rintro en w1 ⟨rfl, hb⟩
      have G1 : Below w.heap.size w w1 := Below.trans (by (repeat (with_reducible refine M.Below.drewN ?_ _)); go_grown) (hb.mono (by go_size))
      have S1 := G1.size; clear hb
      go_wp2_with fail
      go_ret
      exact ⟨rfl, by (repeat (with_reducible refine M.Below.drewN ?_ _)); go_grown⟩
    · skip
      go_enter Try.func7, Try.ntmps7
      go_wp2_with fail
      (with_reducible refine (c0.out _).mono ?_); rintro en w1 ⟨rfl, hb⟩
      have G1 : Below w.heap.size w w1 := Below.trans (by (repeat (with_reducible refine M.Below.drewN ?_ _)); go_grown) (hb.mono (by go_size))
      have S1 := G1.size; clear hb
      go_wp2_with fail
      go_ret
      exact ⟨rfl, by (repeat (with_reducible refine M.Below.drewN ?_ _)); go_grown⟩
    · skip
      go_enter Try.func7, Try.ntmps7
      go_wp2_with fail
      (with_reducible refine (c0.out _).mono ?_); rintro en w1 ⟨rfl, hb⟩
      have G1 : Below w.heap.size w w1 := Below.trans (by (repeat (with_reducible refine M.Below.drewN ?_ _)); go_grown) (hb.mono (by go_size))
      have S1 := G1.size; clear hb
      go_wp2_with fail
      go_ret
      exact ⟨rfl, by (repeat (with_reducible refine M.Below.drewN ?_ _)); go_grown⟩
    · skip
      go_enter Try.func7, Try.ntmps7
      go_wp2_with fail
      (with_reducible refine (c0.out _).mono ?_); rintro en w1 ⟨rfl, hb⟩
      have G1 : Below w.heap.size w w1 := Below.trans (by (repeat (with_reducible refine M.Below.drewN ?_ _)); go_grown) (hb.mono (by go_size))
      have S1 := G1.size; clear hb
      go_wp2_with fail
      go_ret
      exact ⟨rfl, by (repeat (with_reducible refine M.Below.drewN ?_ _)); go_grown⟩
    · skip
      go_enter Try.func7, Try.ntmps7
      go_wp2_with fail
      (with_reducible refine (c0.out _).mono ?_); rintro en w1 ⟨rfl, hb⟩
      have G1 : Below w.heap.size w w1 := Below.trans (by (repeat (with_reducible refine M.Below.drewN ?_ _)); go_grown) (hb.mono (by go_size))
      have S1 := G1.size; clear hb
      go_wp2_with fail
      go_ret
      exact ⟨rfl, by (repeat (with_reducible refine M.Below.drewN ?_ _)); go_grown⟩
  obtain ⟨g1, g2, g3, g4, g5, g6, g7, g8⟩ := hg
  have hxm : -5000 ≤ x * m ∧ x * m ≤ 5000 := by
    constructor
    · have := Int.mul_nonneg (show 0 ≤ x + 100 by omega) (show 0 ≤ m by omega); rw [Int.add_mul] at this; omega
    · have := Int.mul_nonneg (show 0 ≤ 100 - x by omega) (show 0 ≤ m by omega); rw [Int.sub_mul] at this; omega
  have hyn : -5000 ≤ y * n ∧ y * n ≤ 5000 := by
    constructor
    · have := Int.mul_nonneg (show 0 ≤ y + 100 by omega) (show 0 ≤ n by omega); rw [Int.add_mul] at this; omega
    · have := Int.mul_nonneg (show 0 ≤ 100 - y by omega) (show 0 ≤ n by omega); rw [Int.sub_mul] at this; omega
  have e := contact_slows g5 g7 g6 g8 ⟨g1, g3⟩ ⟨g2, g4⟩
  have OA : (⟨1, 4294967296, 0, m * 4294967296, 0, 0, x * m * 4294967296, 0⟩ : Bd).ok := ⟨by unfold I64; (try dsimp only); omega, by unfold I64; (try dsimp only); omega, by unfold I64; (try dsimp only); omega, by unfold I64; dsimp only; omega, by unfold I64; (try dsimp only); omega, by unfold I64; (try dsimp only); omega, by unfold I64; dsimp only; omega, by unfold I64; (try dsimp only); omega⟩
  have OB : (⟨1, 4294967296, 0, n * 4294967296, 0, 0, y * n * 4294967296, 0⟩ : Bd).ok := ⟨by unfold I64; (try dsimp only); omega, by unfold I64; (try dsimp only); omega, by unfold I64; (try dsimp only); omega, by unfold I64; dsimp only; omega, by unfold I64; (try dsimp only); omega, by unfold I64; (try dsimp only); omega, by unfold I64; dsimp only; omega, by unfold I64; (try dsimp only); omega⟩
  replace OA := Lib.hid OA; replace OB := Lib.hid OB
  obtain ⟨x1, x2⟩ := hxm
  obtain ⟨y1, y2⟩ := hyn
  by_cases hyx : y < x
  · rw [if_pos hyx] at e
    have s := slows g5 g7 g6 g8 ⟨g1, g3⟩ ⟨g2, g4⟩ hyx
    obtain ⟨j0, j1, _, _⟩ := jolt_spec g5 g7 g6 g8 (show 1 ≤ x - y by omega) (by omega)
    have a1 := Int.natAbs_tdiv_le_natAbs (x * m * 4294967296 - jolt m n (x - y)) m
    have b1 := Int.natAbs_tdiv_le_natAbs (y * n * 4294967296 + jolt m n (x - y)) n
    obtain ⟨A, hA⟩ : ∃ A, A = x * m * 4294967296 - jolt m n (x - y) := ⟨_, rfl⟩
    obtain ⟨B, hB⟩ : ∃ B, B = y * n * 4294967296 + jolt m n (x - y) := ⟨_, rfl⟩
    rw [← hA, ← hB] at e s
    rw [← hA] at a1; rw [← hB] at b1
    have t0 : -1152921504606846976 ≤ A ∧ A ≤ 1152921504606846976 ∧ -1152921504606846976 ≤ B ∧ B ≤ 1152921504606846976 := by omega
    obtain ⟨p1, p2⟩ := s
    have t1 : wrap64 (A.tdiv m) = A.tdiv m := wrap64_id (by unfold I64; omega)
    have t2 : wrap64 (B.tdiv n) = B.tdiv n := wrap64_id (by unfold I64; omega)
    have ww1 := IntWalk.i64_in (A.tdiv m) (by omega)
    have ww2 := IntWalk.i64_in (B.tdiv n) (by omega)
    have ww3 := IntWalk.i64_in (B.tdiv n - A.tdiv m) (by omega)
    have n0 : ¬ n = 0 := by omega
    have m0 : ¬ m = 0 := by omega
    have n1 := beq_eq_false_iff_ne.2 n0
    have m1 := beq_eq_false_iff_ne.2 m0
    have t3 : wrap64 (B.tdiv n - A.tdiv m) = B.tdiv n - A.tdiv m := wrap64_id (by unfold I64; omega)
    have E := Lib.hid e
    clear e hA hB a1 b1 j0 j1 t0
    go_enter Try.func7, Try.ntmps7
    go_wp2_with fail
    (with_reducible refine (c0.out _).mono ?_); rintro en w1 ⟨rfl, hb⟩
    have G1 : Below w.heap.size w w1 := Below.trans (by (repeat (with_reducible refine M.Below.drewN ?_ _)); go_grown) (hb.mono (by go_size))
    have S1 := G1.size; clear hb
    go_wp2_with fail
    refine (try_c 29 #[.pointer (some ⟨w1.heap.size, 0, none⟩), .pointer (some ⟨w1.heap.size + 1, 0, none⟩), .pointer (some ⟨w1.heap.size + 1 + 1, 0, none⟩), .pointer (some ⟨w1.heap.size + 1 + 1 + 1, 0, none⟩)] _ (0) (usBd (w1.heap.size + 1 + 1) (.ok (⟨1, 4294967296, 0, m * 4294967296, 0, 0, A, 0⟩ : Bd)) ++ usBd (w1.heap.size + 1 + 1 + 1) (.ok (⟨1, 4294967296, 0, n * 4294967296, 0, 0, B, 0⟩ : Bd))) (fun _ => rfl) ?_ ?_).mono ?_
    · intro u hu; (try simp only [List.mem_append] at hu); (repeat' (obtain hu | hu := (hu : _ ∨ _))); all_goals (first | rw [M.usBx_block hu] | rw [M.usV_block hu] | rw [M.usI_block hu] | rw [M.usHt_block hu] | rw [M.usBd_block hu] | rw [M.usB_block hu] | rw [M.cell_block1 hu] | (exfalso; simp at hu; done)); all_goals ((try simp [go_sem]) <;> omega)
    · intro w1' hb; exact (cloSl _ _ _ _ (⟨1, 4294967296, 0, m * 4294967296, 0, 0, x * m * 4294967296, 0⟩ : Bd) OA.out (⟨1, 4294967296, 0, n * 4294967296, 0, 0, y * n * 4294967296, 0⟩ : Bd) OB.out _ _ _ _ _ _ _ _ _ _ _ _ _ _ _ _ (.ok ((⟨1, 4294967296, 0, m * 4294967296, 0, 0, A, 0⟩ : Bd), (⟨1, 4294967296, 0, n * 4294967296, 0, 0, B, 0⟩ : Bd))) E.out w1' (M.Var.mono (b := w1.heap.size) (cs := #[.int .i64 1, .int .i64 4294967296, .int .i64 0, .int .i64 (m * 4294967296), .int .i64 0, .int .i64 0, .int .i64 (x * m * 4294967296), .int .i64 0]) (by (repeat (first | (with_reducible assumption) | (with_reducible apply M.var_set45) | (with_reducible refine M.var_alloc' _ _ _ ?_; first | rfl | (simp [go_sem]; done)) | (with_reducible refine M.Var.alloc ?_ _) | (with_reducible refine M.Var.drewN ?_ _) | (with_reducible refine M.Var.drew ?_) | (with_reducible refine M.Var.far ?_ _ _ ?hFar; case hFar => (first | omega | ((try simp [go_sem]) <;> omega))) | fail))) hb) (M.Var.mono (b := w1.heap.size + 1) (cs := #[.int .i64 1, .int .i64 4294967296, .int .i64 0, .int .i64 (n * 4294967296), .int .i64 0, .int .i64 0, .int .i64 (y * n * 4294967296), .int .i64 0]) (by (repeat (first | (with_reducible assumption) | (with_reducible apply M.var_set45) | (with_reducible refine M.var_alloc' _ _ _ ?_; first | rfl | (simp [go_sem]; done)) | (with_reducible refine M.Var.alloc ?_ _) | (with_reducible refine M.Var.drewN ?_ _) | (with_reducible refine M.Var.drew ?_) | (with_reducible refine M.Var.far ?_ _ _ ?hFar; case hFar => (first | omega | ((try simp [go_sem]) <;> omega))) | fail))) hb) (M.Var.mono (b := w1.heap.size + 1 + 1) (cs := #[.int .i64 0, .int .i64 0, .int .i64 0, .int .i64 0, .int .i64 0, .int .i64 0, .int .i64 0, .int .i64 0]) (by (repeat (first | (with_reducible assumption) | (with_reducible apply M.var_set45) | (with_reducible refine M.var_alloc' _ _ _ ?_; first | rfl | (simp [go_sem]; done)) | (with_reducible refine M.Var.alloc ?_ _) | (with_reducible refine M.Var.drewN ?_ _) | (with_reducible refine M.Var.drew ?_) | (with_reducible refine M.Var.far ?_ _ _ ?hFar; case hFar => (first | omega | ((try simp [go_sem]) <;> omega))) | fail))) hb) (M.Var.mono (b := w1.heap.size + 1 + 1 + 1) (cs := #[.int .i64 0, .int .i64 0, .int .i64 0, .int .i64 0, .int .i64 0, .int .i64 0, .int .i64 0, .int .i64 0]) (by (repeat (first | (with_reducible assumption) | (with_reducible apply M.var_set45) | (with_reducible refine M.var_alloc' _ _ _ ?_; first | rfl | (simp [go_sem]; done)) | (with_reducible refine M.Var.alloc ?_ _) | (with_reducible refine M.Var.drewN ?_ _) | (with_reducible refine M.Var.drew ?_) | (with_reducible refine M.Var.far ?_ _ _ ?hFar; case hFar => (first | omega | ((try simp [go_sem]) <;> omega))) | fail))) hb) (by omega)).mono fun e w' h => h
    rintro en w2 ⟨rfl, hb⟩
    have G2 : Below w.heap.size w w2 := Below.trans (M.below_sets_own (usBd (w1.heap.size + 1 + 1) (.ok (⟨1, 4294967296, 0, m * 4294967296, 0, 0, A, 0⟩ : Bd)) ++ usBd (w1.heap.size + 1 + 1 + 1) (.ok (⟨1, 4294967296, 0, n * 4294967296, 0, 0, B, 0⟩ : Bd))) (by (repeat (with_reducible refine M.Below.drewN ?_ _)); go_grown) (by intro u hu; (try simp only [List.mem_append] at hu); (repeat' (obtain hu | hu := (hu : _ ∨ _))); all_goals (first | rw [M.usBx_block hu] | rw [M.usV_block hu] | rw [M.usI_block hu] | rw [M.usHt_block hu] | rw [M.usBd_block hu] | rw [M.usB_block hu] | rw [M.cell_block1 hu] | (exfalso; simp at hu; done)); all_goals ((try simp [go_sem]) <;> omega))) (hb.mono (by go_size))
    have V2_a : M.Var w2 (w1.heap.size) #[.int .i64 1, .int .i64 4294967296, .int .i64 0, .int .i64 (m * 4294967296), .int .i64 0, .int .i64 0, .int .i64 (x * m * 4294967296), .int .i64 0] := M.Var.mono' (u := M.sets _ (usBd (w1.heap.size + 1 + 1) (.ok (⟨1, 4294967296, 0, m * 4294967296, 0, 0, A, 0⟩ : Bd)) ++ usBd (w1.heap.size + 1 + 1 + 1) (.ok (⟨1, 4294967296, 0, n * 4294967296, 0, 0, B, 0⟩ : Bd)))) (by (try simp only [M.sets_append]); exact (M.var_sets_far (usBd (w1.heap.size + 1 + 1 + 1) (.ok (⟨1, 4294967296, 0, n * 4294967296, 0, 0, B, 0⟩ : Bd))) (M.var_sets_far (usBd (w1.heap.size + 1 + 1) (.ok (⟨1, 4294967296, 0, m * 4294967296, 0, 0, A, 0⟩ : Bd))) (by (repeat (first | (with_reducible assumption) | (with_reducible apply M.var_set45) | (with_reducible refine M.var_alloc' _ _ _ ?_; first | rfl | (simp [go_sem]; done)) | (with_reducible refine M.Var.alloc ?_ _) | (with_reducible refine M.Var.drewN ?_ _) | (with_reducible refine M.Var.drew ?_) | (with_reducible refine M.Var.far ?_ _ _ ?hFar; case hFar => (first | omega | ((try simp [go_sem]) <;> omega))) | fail)) : M.Var _ (w1.heap.size) #[.int .i64 1, .int .i64 4294967296, .int .i64 0, .int .i64 (m * 4294967296), .int .i64 0, .int .i64 0, .int .i64 (x * m * 4294967296), .int .i64 0]) (by intro u hu; all_goals (first | rw [M.usBx_block hu] | rw [M.usV_block hu] | rw [M.usI_block hu] | rw [M.usHt_block hu] | rw [M.usBd_block hu] | rw [M.usB_block hu] | rw [M.cell_block1 hu] | (exfalso; simp at hu; done)); all_goals ((try simp [go_sem]) <;> omega))) (by intro u hu; all_goals (first | rw [M.usBx_block hu] | rw [M.usV_block hu] | rw [M.usI_block hu] | rw [M.usHt_block hu] | rw [M.usBd_block hu] | rw [M.usB_block hu] | rw [M.cell_block1 hu] | (exfalso; simp at hu; done)); all_goals ((try simp [go_sem]) <;> omega)))) (M.sets_size _ _) hb
    have V2_b : M.Var w2 (w1.heap.size + 1) #[.int .i64 1, .int .i64 4294967296, .int .i64 0, .int .i64 (n * 4294967296), .int .i64 0, .int .i64 0, .int .i64 (y * n * 4294967296), .int .i64 0] := M.Var.mono' (u := M.sets _ (usBd (w1.heap.size + 1 + 1) (.ok (⟨1, 4294967296, 0, m * 4294967296, 0, 0, A, 0⟩ : Bd)) ++ usBd (w1.heap.size + 1 + 1 + 1) (.ok (⟨1, 4294967296, 0, n * 4294967296, 0, 0, B, 0⟩ : Bd)))) (by (try simp only [M.sets_append]); exact (M.var_sets_far (usBd (w1.heap.size + 1 + 1 + 1) (.ok (⟨1, 4294967296, 0, n * 4294967296, 0, 0, B, 0⟩ : Bd))) (M.var_sets_far (usBd (w1.heap.size + 1 + 1) (.ok (⟨1, 4294967296, 0, m * 4294967296, 0, 0, A, 0⟩ : Bd))) (by (repeat (first | (with_reducible assumption) | (with_reducible apply M.var_set45) | (with_reducible refine M.var_alloc' _ _ _ ?_; first | rfl | (simp [go_sem]; done)) | (with_reducible refine M.Var.alloc ?_ _) | (with_reducible refine M.Var.drewN ?_ _) | (with_reducible refine M.Var.drew ?_) | (with_reducible refine M.Var.far ?_ _ _ ?hFar; case hFar => (first | omega | ((try simp [go_sem]) <;> omega))) | fail)) : M.Var _ (w1.heap.size + 1) #[.int .i64 1, .int .i64 4294967296, .int .i64 0, .int .i64 (n * 4294967296), .int .i64 0, .int .i64 0, .int .i64 (y * n * 4294967296), .int .i64 0]) (by intro u hu; all_goals (first | rw [M.usBx_block hu] | rw [M.usV_block hu] | rw [M.usI_block hu] | rw [M.usHt_block hu] | rw [M.usBd_block hu] | rw [M.usB_block hu] | rw [M.cell_block1 hu] | (exfalso; simp at hu; done)); all_goals ((try simp [go_sem]) <;> omega))) (by intro u hu; all_goals (first | rw [M.usBx_block hu] | rw [M.usV_block hu] | rw [M.usI_block hu] | rw [M.usHt_block hu] | rw [M.usBd_block hu] | rw [M.usB_block hu] | rw [M.cell_block1 hu] | (exfalso; simp at hu; done)); all_goals ((try simp [go_sem]) <;> omega)))) (M.sets_size _ _) hb
    have V2_u : M.Var w2 (w1.heap.size + 1 + 1) #[.int .i64 1, .int .i64 4294967296, .int .i64 0, .int .i64 (m * 4294967296), .int .i64 0, .int .i64 0, .int .i64 A, .int .i64 0] := M.Var.mono' (u := M.sets _ (usBd (w1.heap.size + 1 + 1) (.ok (⟨1, 4294967296, 0, m * 4294967296, 0, 0, A, 0⟩ : Bd)) ++ usBd (w1.heap.size + 1 + 1 + 1) (.ok (⟨1, 4294967296, 0, n * 4294967296, 0, 0, B, 0⟩ : Bd)))) (by (try simp only [M.sets_append]); exact (M.var_sets_far (usBd (w1.heap.size + 1 + 1 + 1) (.ok (⟨1, 4294967296, 0, n * 4294967296, 0, 0, B, 0⟩ : Bd))) (M.var_setBd (by (repeat (first | (with_reducible assumption) | (with_reducible apply M.var_set45) | (with_reducible refine M.var_alloc' _ _ _ ?_; first | rfl | (simp [go_sem]; done)) | (with_reducible refine M.Var.alloc ?_ _) | (with_reducible refine M.Var.drewN ?_ _) | (with_reducible refine M.Var.drew ?_) | (with_reducible refine M.Var.far ?_ _ _ ?hFar; case hFar => (first | omega | ((try simp [go_sem]) <;> omega))) | fail)) : M.Var _ (w1.heap.size + 1 + 1) #[.int .i64 0, .int .i64 0, .int .i64 0, .int .i64 0, .int .i64 0, .int .i64 0, .int .i64 0, .int .i64 0]) _ _ _ _ _ _ _ _) (by intro u hu; all_goals (first | rw [M.usBx_block hu] | rw [M.usV_block hu] | rw [M.usI_block hu] | rw [M.usHt_block hu] | rw [M.usBd_block hu] | rw [M.usB_block hu] | rw [M.cell_block1 hu] | (exfalso; simp at hu; done)); all_goals ((try simp [go_sem]) <;> omega)))) (M.sets_size _ _) hb
    have V2_v : M.Var w2 (w1.heap.size + 1 + 1 + 1) #[.int .i64 1, .int .i64 4294967296, .int .i64 0, .int .i64 (n * 4294967296), .int .i64 0, .int .i64 0, .int .i64 B, .int .i64 0] := M.Var.mono' (u := M.sets _ (usBd (w1.heap.size + 1 + 1) (.ok (⟨1, 4294967296, 0, m * 4294967296, 0, 0, A, 0⟩ : Bd)) ++ usBd (w1.heap.size + 1 + 1 + 1) (.ok (⟨1, 4294967296, 0, n * 4294967296, 0, 0, B, 0⟩ : Bd)))) (by (try simp only [M.sets_append]); exact (M.var_setBd (M.var_sets_far (usBd (w1.heap.size + 1 + 1) (.ok (⟨1, 4294967296, 0, m * 4294967296, 0, 0, A, 0⟩ : Bd))) (by (repeat (first | (with_reducible assumption) | (with_reducible apply M.var_set45) | (with_reducible refine M.var_alloc' _ _ _ ?_; first | rfl | (simp [go_sem]; done)) | (with_reducible refine M.Var.alloc ?_ _) | (with_reducible refine M.Var.drewN ?_ _) | (with_reducible refine M.Var.drew ?_) | (with_reducible refine M.Var.far ?_ _ _ ?hFar; case hFar => (first | omega | ((try simp [go_sem]) <;> omega))) | fail)) : M.Var _ (w1.heap.size + 1 + 1 + 1) #[.int .i64 0, .int .i64 0, .int .i64 0, .int .i64 0, .int .i64 0, .int .i64 0, .int .i64 0, .int .i64 0]) (by intro u hu; all_goals (first | rw [M.usBx_block hu] | rw [M.usV_block hu] | rw [M.usI_block hu] | rw [M.usHt_block hu] | rw [M.usBd_block hu] | rw [M.usB_block hu] | rw [M.cell_block1 hu] | (exfalso; simp at hu; done)); all_goals ((try simp [go_sem]) <;> omega))) _ _ _ _ _ _ _ _)) (M.sets_size _ _) hb
    have q2_a_0 : w2.cell? ⟨w1.heap.size, 0, none⟩ = some (.int .i64 1) := V2_a.c 0 _ rfl
    have q2_a_1 : w2.cell? ⟨w1.heap.size, 1, none⟩ = some (.int .i64 4294967296) := V2_a.c 1 _ rfl
    have q2_a_2 : w2.cell? ⟨w1.heap.size, 2, none⟩ = some (.int .i64 0) := V2_a.c 2 _ rfl
    have q2_a_3 : w2.cell? ⟨w1.heap.size, 3, none⟩ = some (.int .i64 (m * 4294967296)) := V2_a.c 3 _ rfl
    have q2_a_4 : w2.cell? ⟨w1.heap.size, 4, none⟩ = some (.int .i64 0) := V2_a.c 4 _ rfl
    have q2_a_5 : w2.cell? ⟨w1.heap.size, 5, none⟩ = some (.int .i64 0) := V2_a.c 5 _ rfl
    have q2_a_6 : w2.cell? ⟨w1.heap.size, 6, none⟩ = some (.int .i64 (x * m * 4294967296)) := V2_a.c 6 _ rfl
    have q2_a_7 : w2.cell? ⟨w1.heap.size, 7, none⟩ = some (.int .i64 0) := V2_a.c 7 _ rfl
    have f2_a := V2_a.2.2; have L2_a := V2_a.lt; have N2_a := Nat.ne_of_gt L2_a; have M2_a := Nat.ne_of_lt L2_a
    have HV2_a := Lib.hid V2_a
    have q2_b_0 : w2.cell? ⟨w1.heap.size + 1, 0, none⟩ = some (.int .i64 1) := V2_b.c 0 _ rfl
    have q2_b_1 : w2.cell? ⟨w1.heap.size + 1, 1, none⟩ = some (.int .i64 4294967296) := V2_b.c 1 _ rfl
    have q2_b_2 : w2.cell? ⟨w1.heap.size + 1, 2, none⟩ = some (.int .i64 0) := V2_b.c 2 _ rfl
    have q2_b_3 : w2.cell? ⟨w1.heap.size + 1, 3, none⟩ = some (.int .i64 (n * 4294967296)) := V2_b.c 3 _ rfl
    have q2_b_4 : w2.cell? ⟨w1.heap.size + 1, 4, none⟩ = some (.int .i64 0) := V2_b.c 4 _ rfl
    have q2_b_5 : w2.cell? ⟨w1.heap.size + 1, 5, none⟩ = some (.int .i64 0) := V2_b.c 5 _ rfl
    have q2_b_6 : w2.cell? ⟨w1.heap.size + 1, 6, none⟩ = some (.int .i64 (y * n * 4294967296)) := V2_b.c 6 _ rfl
    have q2_b_7 : w2.cell? ⟨w1.heap.size + 1, 7, none⟩ = some (.int .i64 0) := V2_b.c 7 _ rfl
    have f2_b := V2_b.2.2; have L2_b := V2_b.lt; have N2_b := Nat.ne_of_gt L2_b; have M2_b := Nat.ne_of_lt L2_b
    have HV2_b := Lib.hid V2_b
    have q2_u_0 : w2.cell? ⟨w1.heap.size + 1 + 1, 0, none⟩ = some (.int .i64 1) := V2_u.c 0 _ rfl
    have q2_u_1 : w2.cell? ⟨w1.heap.size + 1 + 1, 1, none⟩ = some (.int .i64 4294967296) := V2_u.c 1 _ rfl
    have q2_u_2 : w2.cell? ⟨w1.heap.size + 1 + 1, 2, none⟩ = some (.int .i64 0) := V2_u.c 2 _ rfl
    have q2_u_3 : w2.cell? ⟨w1.heap.size + 1 + 1, 3, none⟩ = some (.int .i64 (m * 4294967296)) := V2_u.c 3 _ rfl
    have q2_u_4 : w2.cell? ⟨w1.heap.size + 1 + 1, 4, none⟩ = some (.int .i64 0) := V2_u.c 4 _ rfl
    have q2_u_5 : w2.cell? ⟨w1.heap.size + 1 + 1, 5, none⟩ = some (.int .i64 0) := V2_u.c 5 _ rfl
    have q2_u_6 : w2.cell? ⟨w1.heap.size + 1 + 1, 6, none⟩ = some (.int .i64 A) := V2_u.c 6 _ rfl
    have q2_u_7 : w2.cell? ⟨w1.heap.size + 1 + 1, 7, none⟩ = some (.int .i64 0) := V2_u.c 7 _ rfl
    have f2_u := V2_u.2.2; have L2_u := V2_u.lt; have N2_u := Nat.ne_of_gt L2_u; have M2_u := Nat.ne_of_lt L2_u
    have HV2_u := Lib.hid V2_u
    have q2_v_0 : w2.cell? ⟨w1.heap.size + 1 + 1 + 1, 0, none⟩ = some (.int .i64 1) := V2_v.c 0 _ rfl
    have q2_v_1 : w2.cell? ⟨w1.heap.size + 1 + 1 + 1, 1, none⟩ = some (.int .i64 4294967296) := V2_v.c 1 _ rfl
    have q2_v_2 : w2.cell? ⟨w1.heap.size + 1 + 1 + 1, 2, none⟩ = some (.int .i64 0) := V2_v.c 2 _ rfl
    have q2_v_3 : w2.cell? ⟨w1.heap.size + 1 + 1 + 1, 3, none⟩ = some (.int .i64 (n * 4294967296)) := V2_v.c 3 _ rfl
    have q2_v_4 : w2.cell? ⟨w1.heap.size + 1 + 1 + 1, 4, none⟩ = some (.int .i64 0) := V2_v.c 4 _ rfl
    have q2_v_5 : w2.cell? ⟨w1.heap.size + 1 + 1 + 1, 5, none⟩ = some (.int .i64 0) := V2_v.c 5 _ rfl
    have q2_v_6 : w2.cell? ⟨w1.heap.size + 1 + 1 + 1, 6, none⟩ = some (.int .i64 B) := V2_v.c 6 _ rfl
    have q2_v_7 : w2.cell? ⟨w1.heap.size + 1 + 1 + 1, 7, none⟩ = some (.int .i64 0) := V2_v.c 7 _ rfl
    have f2_v := V2_v.2.2; have L2_v := V2_v.lt; have N2_v := Nat.ne_of_gt L2_v; have M2_v := Nat.ne_of_lt L2_v
    have HV2_v := Lib.hid V2_v
    have S2 := G2.size; clear hb
    go_wp2_with fail
    go_region_held2 (fun w' => w'.cell? ⟨w1.heap.size + 1 + 1, 0, none⟩ = some (.int .i64 1) ∧ w'.cell? ⟨w1.heap.size + 1 + 1, 1, none⟩ = some (.int .i64 4294967296) ∧ w'.cell? ⟨w1.heap.size + 1 + 1, 2, none⟩ = some (.int .i64 0) ∧ w'.cell? ⟨w1.heap.size + 1 + 1, 3, none⟩ = some (.int .i64 (m * 4294967296)) ∧ w'.cell? ⟨w1.heap.size + 1 + 1, 4, none⟩ = some (.int .i64 0) ∧ w'.cell? ⟨w1.heap.size + 1 + 1, 5, none⟩ = some (.int .i64 0) ∧ w'.cell? ⟨w1.heap.size + 1 + 1, 6, none⟩ = some (.int .i64 A) ∧ w'.cell? ⟨w1.heap.size + 1 + 1, 7, none⟩ = some (.int .i64 0) ∧ w'.cell? ⟨w1.heap.size + 1 + 1 + 1, 0, none⟩ = some (.int .i64 1) ∧ w'.cell? ⟨w1.heap.size + 1 + 1 + 1, 1, none⟩ = some (.int .i64 4294967296) ∧ w'.cell? ⟨w1.heap.size + 1 + 1 + 1, 2, none⟩ = some (.int .i64 0) ∧ w'.cell? ⟨w1.heap.size + 1 + 1 + 1, 3, none⟩ = some (.int .i64 (n * 4294967296)) ∧ w'.cell? ⟨w1.heap.size + 1 + 1 + 1, 4, none⟩ = some (.int .i64 0) ∧ w'.cell? ⟨w1.heap.size + 1 + 1 + 1, 5, none⟩ = some (.int .i64 0) ∧ w'.cell? ⟨w1.heap.size + 1 + 1 + 1, 6, none⟩ = some (.int .i64 B) ∧ w'.cell? ⟨w1.heap.size + 1 + 1 + 1, 7, none⟩ = some (.int .i64 0)) (first | (go_keep; done) | (simp [*, go_sem, World.cell?_alloc_some, World.cell?_setCell_far]; done))
      (fail)
    go_wp2_with fail
    go_ret
    exact ⟨rfl, by (repeat (with_reducible refine M.Below.drewN ?_ _)); go_grown⟩
  · rw [if_neg hyx] at e
    have hxy : x ≤ y := by omega
    have E := Lib.hid e
    clear e
    go_enter Try.func7, Try.ntmps7
    go_wp2_with fail
    (with_reducible refine (c0.out _).mono ?_); rintro en w1 ⟨rfl, hb⟩
    have G1 : Below w.heap.size w w1 := Below.trans (by (repeat (with_reducible refine M.Below.drewN ?_ _)); go_grown) (hb.mono (by go_size))
    have S1 := G1.size; clear hb
    go_wp2_with fail
    refine (try_c 29 #[.pointer (some ⟨w1.heap.size, 0, none⟩), .pointer (some ⟨w1.heap.size + 1, 0, none⟩), .pointer (some ⟨w1.heap.size + 1 + 1, 0, none⟩), .pointer (some ⟨w1.heap.size + 1 + 1 + 1, 0, none⟩)] _ (0) (usBd (w1.heap.size + 1 + 1) (.ok (⟨1, 4294967296, 0, m * 4294967296, 0, 0, x * m * 4294967296, 0⟩ : Bd)) ++ usBd (w1.heap.size + 1 + 1 + 1) (.ok (⟨1, 4294967296, 0, n * 4294967296, 0, 0, y * n * 4294967296, 0⟩ : Bd))) (fun _ => rfl) ?_ ?_).mono ?_
    · intro u hu; (try simp only [List.mem_append] at hu); (repeat' (obtain hu | hu := (hu : _ ∨ _))); all_goals (first | rw [M.usBx_block hu] | rw [M.usV_block hu] | rw [M.usI_block hu] | rw [M.usHt_block hu] | rw [M.usBd_block hu] | rw [M.usB_block hu] | rw [M.cell_block1 hu] | (exfalso; simp at hu; done)); all_goals ((try simp [go_sem]) <;> omega)
    · intro w1' hb; exact (cloSl _ _ _ _ (⟨1, 4294967296, 0, m * 4294967296, 0, 0, x * m * 4294967296, 0⟩ : Bd) OA.out (⟨1, 4294967296, 0, n * 4294967296, 0, 0, y * n * 4294967296, 0⟩ : Bd) OB.out _ _ _ _ _ _ _ _ _ _ _ _ _ _ _ _ (.ok ((⟨1, 4294967296, 0, m * 4294967296, 0, 0, x * m * 4294967296, 0⟩ : Bd), (⟨1, 4294967296, 0, n * 4294967296, 0, 0, y * n * 4294967296, 0⟩ : Bd))) E.out w1' (M.Var.mono (b := w1.heap.size) (cs := #[.int .i64 1, .int .i64 4294967296, .int .i64 0, .int .i64 (m * 4294967296), .int .i64 0, .int .i64 0, .int .i64 (x * m * 4294967296), .int .i64 0]) (by (repeat (first | (with_reducible assumption) | (with_reducible apply M.var_set45) | (with_reducible refine M.var_alloc' _ _ _ ?_; first | rfl | (simp [go_sem]; done)) | (with_reducible refine M.Var.alloc ?_ _) | (with_reducible refine M.Var.drewN ?_ _) | (with_reducible refine M.Var.drew ?_) | (with_reducible refine M.Var.far ?_ _ _ ?hFar; case hFar => (first | omega | ((try simp [go_sem]) <;> omega))) | fail))) hb) (M.Var.mono (b := w1.heap.size + 1) (cs := #[.int .i64 1, .int .i64 4294967296, .int .i64 0, .int .i64 (n * 4294967296), .int .i64 0, .int .i64 0, .int .i64 (y * n * 4294967296), .int .i64 0]) (by (repeat (first | (with_reducible assumption) | (with_reducible apply M.var_set45) | (with_reducible refine M.var_alloc' _ _ _ ?_; first | rfl | (simp [go_sem]; done)) | (with_reducible refine M.Var.alloc ?_ _) | (with_reducible refine M.Var.drewN ?_ _) | (with_reducible refine M.Var.drew ?_) | (with_reducible refine M.Var.far ?_ _ _ ?hFar; case hFar => (first | omega | ((try simp [go_sem]) <;> omega))) | fail))) hb) (M.Var.mono (b := w1.heap.size + 1 + 1) (cs := #[.int .i64 0, .int .i64 0, .int .i64 0, .int .i64 0, .int .i64 0, .int .i64 0, .int .i64 0, .int .i64 0]) (by (repeat (first | (with_reducible assumption) | (with_reducible apply M.var_set45) | (with_reducible refine M.var_alloc' _ _ _ ?_; first | rfl | (simp [go_sem]; done)) | (with_reducible refine M.Var.alloc ?_ _) | (with_reducible refine M.Var.drewN ?_ _) | (with_reducible refine M.Var.drew ?_) | (with_reducible refine M.Var.far ?_ _ _ ?hFar; case hFar => (first | omega | ((try simp [go_sem]) <;> omega))) | fail))) hb) (M.Var.mono (b := w1.heap.size + 1 + 1 + 1) (cs := #[.int .i64 0, .int .i64 0, .int .i64 0, .int .i64 0, .int .i64 0, .int .i64 0, .int .i64 0, .int .i64 0]) (by (repeat (first | (with_reducible assumption) | (with_reducible apply M.var_set45) | (with_reducible refine M.var_alloc' _ _ _ ?_; first | rfl | (simp [go_sem]; done)) | (with_reducible refine M.Var.alloc ?_ _) | (with_reducible refine M.Var.drewN ?_ _) | (with_reducible refine M.Var.drew ?_) | (with_reducible refine M.Var.far ?_ _ _ ?hFar; case hFar => (first | omega | ((try simp [go_sem]) <;> omega))) | fail))) hb) (by omega)).mono fun e w' h => h
    rintro en w2 ⟨rfl, hb⟩
    have G2 : Below w.heap.size w w2 := Below.trans (M.below_sets_own (usBd (w1.heap.size + 1 + 1) (.ok (⟨1, 4294967296, 0, m * 4294967296, 0, 0, x * m * 4294967296, 0⟩ : Bd)) ++ usBd (w1.heap.size + 1 + 1 + 1) (.ok (⟨1, 4294967296, 0, n * 4294967296, 0, 0, y * n * 4294967296, 0⟩ : Bd))) (by (repeat (with_reducible refine M.Below.drewN ?_ _)); go_grown) (by intro u hu; (try simp only [List.mem_append] at hu); (repeat' (obtain hu | hu := (hu : _ ∨ _))); all_goals (first | rw [M.usBx_block hu] | rw [M.usV_block hu] | rw [M.usI_block hu] | rw [M.usHt_block hu] | rw [M.usBd_block hu] | rw [M.usB_block hu] | rw [M.cell_block1 hu] | (exfalso; simp at hu; done)); all_goals ((try simp [go_sem]) <;> omega))) (hb.mono (by go_size))
    have V2_a : M.Var w2 (w1.heap.size) #[.int .i64 1, .int .i64 4294967296, .int .i64 0, .int .i64 (m * 4294967296), .int .i64 0, .int .i64 0, .int .i64 (x * m * 4294967296), .int .i64 0] := M.Var.mono' (u := M.sets _ (usBd (w1.heap.size + 1 + 1) (.ok (⟨1, 4294967296, 0, m * 4294967296, 0, 0, x * m * 4294967296, 0⟩ : Bd)) ++ usBd (w1.heap.size + 1 + 1 + 1) (.ok (⟨1, 4294967296, 0, n * 4294967296, 0, 0, y * n * 4294967296, 0⟩ : Bd)))) (by (try simp only [M.sets_append]); exact (M.var_sets_far (usBd (w1.heap.size + 1 + 1 + 1) (.ok (⟨1, 4294967296, 0, n * 4294967296, 0, 0, y * n * 4294967296, 0⟩ : Bd))) (M.var_sets_far (usBd (w1.heap.size + 1 + 1) (.ok (⟨1, 4294967296, 0, m * 4294967296, 0, 0, x * m * 4294967296, 0⟩ : Bd))) (by (repeat (first | (with_reducible assumption) | (with_reducible apply M.var_set45) | (with_reducible refine M.var_alloc' _ _ _ ?_; first | rfl | (simp [go_sem]; done)) | (with_reducible refine M.Var.alloc ?_ _) | (with_reducible refine M.Var.drewN ?_ _) | (with_reducible refine M.Var.drew ?_) | (with_reducible refine M.Var.far ?_ _ _ ?hFar; case hFar => (first | omega | ((try simp [go_sem]) <;> omega))) | fail)) : M.Var _ (w1.heap.size) #[.int .i64 1, .int .i64 4294967296, .int .i64 0, .int .i64 (m * 4294967296), .int .i64 0, .int .i64 0, .int .i64 (x * m * 4294967296), .int .i64 0]) (by intro u hu; all_goals (first | rw [M.usBx_block hu] | rw [M.usV_block hu] | rw [M.usI_block hu] | rw [M.usHt_block hu] | rw [M.usBd_block hu] | rw [M.usB_block hu] | rw [M.cell_block1 hu] | (exfalso; simp at hu; done)); all_goals ((try simp [go_sem]) <;> omega))) (by intro u hu; all_goals (first | rw [M.usBx_block hu] | rw [M.usV_block hu] | rw [M.usI_block hu] | rw [M.usHt_block hu] | rw [M.usBd_block hu] | rw [M.usB_block hu] | rw [M.cell_block1 hu] | (exfalso; simp at hu; done)); all_goals ((try simp [go_sem]) <;> omega)))) (M.sets_size _ _) hb
    have V2_b : M.Var w2 (w1.heap.size + 1) #[.int .i64 1, .int .i64 4294967296, .int .i64 0, .int .i64 (n * 4294967296), .int .i64 0, .int .i64 0, .int .i64 (y * n * 4294967296), .int .i64 0] := M.Var.mono' (u := M.sets _ (usBd (w1.heap.size + 1 + 1) (.ok (⟨1, 4294967296, 0, m * 4294967296, 0, 0, x * m * 4294967296, 0⟩ : Bd)) ++ usBd (w1.heap.size + 1 + 1 + 1) (.ok (⟨1, 4294967296, 0, n * 4294967296, 0, 0, y * n * 4294967296, 0⟩ : Bd)))) (by (try simp only [M.sets_append]); exact (M.var_sets_far (usBd (w1.heap.size + 1 + 1 + 1) (.ok (⟨1, 4294967296, 0, n * 4294967296, 0, 0, y * n * 4294967296, 0⟩ : Bd))) (M.var_sets_far (usBd (w1.heap.size + 1 + 1) (.ok (⟨1, 4294967296, 0, m * 4294967296, 0, 0, x * m * 4294967296, 0⟩ : Bd))) (by (repeat (first | (with_reducible assumption) | (with_reducible apply M.var_set45) | (with_reducible refine M.var_alloc' _ _ _ ?_; first | rfl | (simp [go_sem]; done)) | (with_reducible refine M.Var.alloc ?_ _) | (with_reducible refine M.Var.drewN ?_ _) | (with_reducible refine M.Var.drew ?_) | (with_reducible refine M.Var.far ?_ _ _ ?hFar; case hFar => (first | omega | ((try simp [go_sem]) <;> omega))) | fail)) : M.Var _ (w1.heap.size + 1) #[.int .i64 1, .int .i64 4294967296, .int .i64 0, .int .i64 (n * 4294967296), .int .i64 0, .int .i64 0, .int .i64 (y * n * 4294967296), .int .i64 0]) (by intro u hu; all_goals (first | rw [M.usBx_block hu] | rw [M.usV_block hu] | rw [M.usI_block hu] | rw [M.usHt_block hu] | rw [M.usBd_block hu] | rw [M.usB_block hu] | rw [M.cell_block1 hu] | (exfalso; simp at hu; done)); all_goals ((try simp [go_sem]) <;> omega))) (by intro u hu; all_goals (first | rw [M.usBx_block hu] | rw [M.usV_block hu] | rw [M.usI_block hu] | rw [M.usHt_block hu] | rw [M.usBd_block hu] | rw [M.usB_block hu] | rw [M.cell_block1 hu] | (exfalso; simp at hu; done)); all_goals ((try simp [go_sem]) <;> omega)))) (M.sets_size _ _) hb
    have V2_u : M.Var w2 (w1.heap.size + 1 + 1) #[.int .i64 1, .int .i64 4294967296, .int .i64 0, .int .i64 (m * 4294967296), .int .i64 0, .int .i64 0, .int .i64 (x * m * 4294967296), .int .i64 0] := M.Var.mono' (u := M.sets _ (usBd (w1.heap.size + 1 + 1) (.ok (⟨1, 4294967296, 0, m * 4294967296, 0, 0, x * m * 4294967296, 0⟩ : Bd)) ++ usBd (w1.heap.size + 1 + 1 + 1) (.ok (⟨1, 4294967296, 0, n * 4294967296, 0, 0, y * n * 4294967296, 0⟩ : Bd)))) (by (try simp only [M.sets_append]); exact (M.var_sets_far (usBd (w1.heap.size + 1 + 1 + 1) (.ok (⟨1, 4294967296, 0, n * 4294967296, 0, 0, y * n * 4294967296, 0⟩ : Bd))) (M.var_setBd (by (repeat (first | (with_reducible assumption) | (with_reducible apply M.var_set45) | (with_reducible refine M.var_alloc' _ _ _ ?_; first | rfl | (simp [go_sem]; done)) | (with_reducible refine M.Var.alloc ?_ _) | (with_reducible refine M.Var.drewN ?_ _) | (with_reducible refine M.Var.drew ?_) | (with_reducible refine M.Var.far ?_ _ _ ?hFar; case hFar => (first | omega | ((try simp [go_sem]) <;> omega))) | fail)) : M.Var _ (w1.heap.size + 1 + 1) #[.int .i64 0, .int .i64 0, .int .i64 0, .int .i64 0, .int .i64 0, .int .i64 0, .int .i64 0, .int .i64 0]) _ _ _ _ _ _ _ _) (by intro u hu; all_goals (first | rw [M.usBx_block hu] | rw [M.usV_block hu] | rw [M.usI_block hu] | rw [M.usHt_block hu] | rw [M.usBd_block hu] | rw [M.usB_block hu] | rw [M.cell_block1 hu] | (exfalso; simp at hu; done)); all_goals ((try simp [go_sem]) <;> omega)))) (M.sets_size _ _) hb
    have V2_v : M.Var w2 (w1.heap.size + 1 + 1 + 1) #[.int .i64 1, .int .i64 4294967296, .int .i64 0, .int .i64 (n * 4294967296), .int .i64 0, .int .i64 0, .int .i64 (y * n * 4294967296), .int .i64 0] := M.Var.mono' (u := M.sets _ (usBd (w1.heap.size + 1 + 1) (.ok (⟨1, 4294967296, 0, m * 4294967296, 0, 0, x * m * 4294967296, 0⟩ : Bd)) ++ usBd (w1.heap.size + 1 + 1 + 1) (.ok (⟨1, 4294967296, 0, n * 4294967296, 0, 0, y * n * 4294967296, 0⟩ : Bd)))) (by (try simp only [M.sets_append]); exact (M.var_setBd (M.var_sets_far (usBd (w1.heap.size + 1 + 1) (.ok (⟨1, 4294967296, 0, m * 4294967296, 0, 0, x * m * 4294967296, 0⟩ : Bd))) (by (repeat (first | (with_reducible assumption) | (with_reducible apply M.var_set45) | (with_reducible refine M.var_alloc' _ _ _ ?_; first | rfl | (simp [go_sem]; done)) | (with_reducible refine M.Var.alloc ?_ _) | (with_reducible refine M.Var.drewN ?_ _) | (with_reducible refine M.Var.drew ?_) | (with_reducible refine M.Var.far ?_ _ _ ?hFar; case hFar => (first | omega | ((try simp [go_sem]) <;> omega))) | fail)) : M.Var _ (w1.heap.size + 1 + 1 + 1) #[.int .i64 0, .int .i64 0, .int .i64 0, .int .i64 0, .int .i64 0, .int .i64 0, .int .i64 0, .int .i64 0]) (by intro u hu; all_goals (first | rw [M.usBx_block hu] | rw [M.usV_block hu] | rw [M.usI_block hu] | rw [M.usHt_block hu] | rw [M.usBd_block hu] | rw [M.usB_block hu] | rw [M.cell_block1 hu] | (exfalso; simp at hu; done)); all_goals ((try simp [go_sem]) <;> omega))) _ _ _ _ _ _ _ _)) (M.sets_size _ _) hb
    have q2_a_0 : w2.cell? ⟨w1.heap.size, 0, none⟩ = some (.int .i64 1) := V2_a.c 0 _ rfl
    have q2_a_1 : w2.cell? ⟨w1.heap.size, 1, none⟩ = some (.int .i64 4294967296) := V2_a.c 1 _ rfl
    have q2_a_2 : w2.cell? ⟨w1.heap.size, 2, none⟩ = some (.int .i64 0) := V2_a.c 2 _ rfl
    have q2_a_3 : w2.cell? ⟨w1.heap.size, 3, none⟩ = some (.int .i64 (m * 4294967296)) := V2_a.c 3 _ rfl
    have q2_a_4 : w2.cell? ⟨w1.heap.size, 4, none⟩ = some (.int .i64 0) := V2_a.c 4 _ rfl
    have q2_a_5 : w2.cell? ⟨w1.heap.size, 5, none⟩ = some (.int .i64 0) := V2_a.c 5 _ rfl
    have q2_a_6 : w2.cell? ⟨w1.heap.size, 6, none⟩ = some (.int .i64 (x * m * 4294967296)) := V2_a.c 6 _ rfl
    have q2_a_7 : w2.cell? ⟨w1.heap.size, 7, none⟩ = some (.int .i64 0) := V2_a.c 7 _ rfl
    have f2_a := V2_a.2.2; have L2_a := V2_a.lt; have N2_a := Nat.ne_of_gt L2_a; have M2_a := Nat.ne_of_lt L2_a
    have HV2_a := Lib.hid V2_a
    have q2_b_0 : w2.cell? ⟨w1.heap.size + 1, 0, none⟩ = some (.int .i64 1) := V2_b.c 0 _ rfl
    have q2_b_1 : w2.cell? ⟨w1.heap.size + 1, 1, none⟩ = some (.int .i64 4294967296) := V2_b.c 1 _ rfl
    have q2_b_2 : w2.cell? ⟨w1.heap.size + 1, 2, none⟩ = some (.int .i64 0) := V2_b.c 2 _ rfl
    have q2_b_3 : w2.cell? ⟨w1.heap.size + 1, 3, none⟩ = some (.int .i64 (n * 4294967296)) := V2_b.c 3 _ rfl
    have q2_b_4 : w2.cell? ⟨w1.heap.size + 1, 4, none⟩ = some (.int .i64 0) := V2_b.c 4 _ rfl
    have q2_b_5 : w2.cell? ⟨w1.heap.size + 1, 5, none⟩ = some (.int .i64 0) := V2_b.c 5 _ rfl
    have q2_b_6 : w2.cell? ⟨w1.heap.size + 1, 6, none⟩ = some (.int .i64 (y * n * 4294967296)) := V2_b.c 6 _ rfl
    have q2_b_7 : w2.cell? ⟨w1.heap.size + 1, 7, none⟩ = some (.int .i64 0) := V2_b.c 7 _ rfl
    have f2_b := V2_b.2.2; have L2_b := V2_b.lt; have N2_b := Nat.ne_of_gt L2_b; have M2_b := Nat.ne_of_lt L2_b
    have HV2_b := Lib.hid V2_b
    have q2_u_0 : w2.cell? ⟨w1.heap.size + 1 + 1, 0, none⟩ = some (.int .i64 1) := V2_u.c 0 _ rfl
    have q2_u_1 : w2.cell? ⟨w1.heap.size + 1 + 1, 1, none⟩ = some (.int .i64 4294967296) := V2_u.c 1 _ rfl
    have q2_u_2 : w2.cell? ⟨w1.heap.size + 1 + 1, 2, none⟩ = some (.int .i64 0) := V2_u.c 2 _ rfl
    have q2_u_3 : w2.cell? ⟨w1.heap.size + 1 + 1, 3, none⟩ = some (.int .i64 (m * 4294967296)) := V2_u.c 3 _ rfl
    have q2_u_4 : w2.cell? ⟨w1.heap.size + 1 + 1, 4, none⟩ = some (.int .i64 0) := V2_u.c 4 _ rfl
    have q2_u_5 : w2.cell? ⟨w1.heap.size + 1 + 1, 5, none⟩ = some (.int .i64 0) := V2_u.c 5 _ rfl
    have q2_u_6 : w2.cell? ⟨w1.heap.size + 1 + 1, 6, none⟩ = some (.int .i64 (x * m * 4294967296)) := V2_u.c 6 _ rfl
    have q2_u_7 : w2.cell? ⟨w1.heap.size + 1 + 1, 7, none⟩ = some (.int .i64 0) := V2_u.c 7 _ rfl
    have f2_u := V2_u.2.2; have L2_u := V2_u.lt; have N2_u := Nat.ne_of_gt L2_u; have M2_u := Nat.ne_of_lt L2_u
    have HV2_u := Lib.hid V2_u
    have q2_v_0 : w2.cell? ⟨w1.heap.size + 1 + 1 + 1, 0, none⟩ = some (.int .i64 1) := V2_v.c 0 _ rfl
    have q2_v_1 : w2.cell? ⟨w1.heap.size + 1 + 1 + 1, 1, none⟩ = some (.int .i64 4294967296) := V2_v.c 1 _ rfl
    have q2_v_2 : w2.cell? ⟨w1.heap.size + 1 + 1 + 1, 2, none⟩ = some (.int .i64 0) := V2_v.c 2 _ rfl
    have q2_v_3 : w2.cell? ⟨w1.heap.size + 1 + 1 + 1, 3, none⟩ = some (.int .i64 (n * 4294967296)) := V2_v.c 3 _ rfl
    have q2_v_4 : w2.cell? ⟨w1.heap.size + 1 + 1 + 1, 4, none⟩ = some (.int .i64 0) := V2_v.c 4 _ rfl
    have q2_v_5 : w2.cell? ⟨w1.heap.size + 1 + 1 + 1, 5, none⟩ = some (.int .i64 0) := V2_v.c 5 _ rfl
    have q2_v_6 : w2.cell? ⟨w1.heap.size + 1 + 1 + 1, 6, none⟩ = some (.int .i64 (y * n * 4294967296)) := V2_v.c 6 _ rfl
    have q2_v_7 : w2.cell? ⟨w1.heap.size + 1 + 1 + 1, 7, none⟩ = some (.int .i64 0) := V2_v.c 7 _ rfl
    have f2_v := V2_v.2.2; have L2_v := V2_v.lt; have N2_v := Nat.ne_of_gt L2_v; have M2_v := Nat.ne_of_lt L2_v
    have HV2_v := Lib.hid V2_v
    have S2 := G2.size; clear hb
    go_wp2_with fail
    go_ret
    exact ⟨rfl, by (repeat (with_reducible refine M.Below.drewN ?_ _)); go_grown⟩

theorem lifted (os : Os) (started : os.Started) (H : Type) (enc : TypeId × Value → H) :
    ReturnsInHanded {} Try.checked os 7 .any (Rows.pushSlowsSpec.pre6 enc Try.prog Try.f7 Rows.pushSlowsRow.domain false) (Rows.pushSlowsSpec.post enc Try.prog Try.f7 false true false false) := by
  refine returnsInHanded_of_change (C := Try.checked) own started (by kernel_rfl) Try.func7
    (ChangeSpec.witness6 (enc := enc) (C := Try.checked) false ⟨#[], #[.int .i64 0, .int .i64 0, .int .i64 0, .int .i64 0], []⟩ 8 (by kernel_rfl) (by kernel_rfl) (by kernel_rfl) (by kernel_rfl)) ?_
  intro W base args ds gs before hval0 hW hcnd _
  have hval : ∀ (j : Nat) t v, Try.f7.params[j]? = some t → args[j]? = some v → Value.okWide Try.prog W .any base t v := hval0
  have hW' := hW
  obtain ⟨p, q, hA0, hV, rfl, hfz, hnd⟩ := hW
  have hA : DataW.TrodAll enc Try.prog W 0 (fun _ => true) true Try.f7.params.toList args.toList ds p := hA0
  rw [Try.params7] at hA hval
  obtain ⟨v0, vs0, d0, ds0, p0, q0, hargs, rfl, rfl, h0, r0⟩ := trodAll_cons hA
  obtain ⟨v1, vs1, d1, ds1, p1, q1, rfl, rfl, rfl, h1, r1⟩ := trodAll_cons r0
  obtain ⟨v2, vs2, d2, ds2, p2, q2, rfl, rfl, rfl, h2, r2⟩ := trodAll_cons r1
  obtain ⟨v3, vs3, d3, ds3, p3, q3, rfl, rfl, rfl, h3, r3⟩ := trodAll_cons r2
  obtain ⟨rfl, rfl, rfl⟩ := trodAll_nil r3
  obtain rfl : args = #[v0, v1, v2, v3] := by cases args; simp_all
  obtain ⟨rfl, rfl⟩ := trodVars_none hV
  obtain ⟨x, rfl, rfl, rfl, wx⟩ := open_int Try.underlying3 (hval 0 3 v0 rfl rfl) h0
  obtain ⟨y, rfl, rfl, rfl, wy⟩ := open_int Try.underlying3 (hval 1 3 v1 rfl rfl) h1
  obtain ⟨m, rfl, rfl, rfl, wm⟩ := open_int Try.underlying3 (hval 2 3 v2 rfl rfl) h2
  obtain ⟨n, rfl, rfl, rfl, wn⟩ := open_int Try.underlying3 (hval 3 3 v3 rfl rfl) h3
  clear hA0 hval0
  simp only [List.append_nil] at hW'
  refine (walk W x (i64_wf wx) y (i64_wf wy) m (i64_wf wm) n (i64_wf wn)).mono fun e W' ⟨he, hg⟩ => ?_
  subst he
  exact ⟨_, rfl, post_below (pa := []) (pv := []) hW' (fun _ _ _ => (trodAll_cons_mk (shut_bool Try.underlying4 _) trodAll_mk0)) (fun sp hsp => (trodAll_cons_mk (shut_int Try.underlying3 wx) (trodAll_cons_mk (shut_int Try.underlying3 wy) (trodAll_cons_mk (shut_int Try.underlying3 wm) (trodAll_cons_mk (shut_int Try.underlying3 wn) trodAll_mk0))))) (fun _ _ => rfl) rfl
    hg (ok_one (by kernel_rfl) rfl (okWide_bool_mk Try.underlying4 _))⟩

theorem closed : joinedFacts Try.prog 7 Try.f7 Rows.pushSlowsSpec Rows.pushSlowsRow = true := by
  unfold joinedFacts
  rw [fact_laid, fact_maps, fact_keys, fact_heard, fact_stops, fact_knobs, fact_enter, fact_lifts, fact_make]
  kernel_rfl

theorem over : Rows.pushSlowsRow.holds Try.pinned (OpenSpec.ofChange Rows.pushSlowsSpec) :=
  OpenClaim.holds_of_wide 7 Try.f7 rfl rfl rfl rfl rfl rfl rfl ⟨rfl, rfl, rfl, rfl, rfl⟩ rfl rfl rfl rfl rfl (by kernel_rfl) Try.func7 closed
    (of_decide_eq_true (by kernel_rfl)) (by unfold Func.isWrapper; first | (rw [if_pos (by decide +kernel)]; kernel_rfl) | (rw [if_neg (by decide +kernel)]; exact ⟨rfl, rfl⟩))
    (fun os started H enc _ => lifted os started H enc)

/-- The statement. -/
theorem proved : Rows.PushSlowsSaid :=
  over
#print axioms proved
end Go.Proofs.Ytcaibieaobhheaa.pushSlows
