/- For every place VecUnits returns true: a direction is about as long as One, and no longer. -/
import Derived.Test.YtaagpkacningdaaRows
import Derived.WalkKit
import Derived.ProofKit
import Derived.OpenShut
import Derived.Test.YtaagpkacningdaaFacts
import Derived.Test.YtaagpkacningdaaArgs
import Derived.Test.YtaagpkacningdaaCloV
import Derived.Test.YtaagpkacningdaaVecAlive
import Derived.Test.YtaagpkacningdaaTouchMath
import Derived.Deep.RegionHeld2
import Derived.Deep.DrawnRows
namespace Go.Proofs.Ytaagpkacningdaa.vecUnits
open Go.ChangeShapes Go.WideShapes Go.ChangeAt Go.RowKit M
set_option maxRecDepth 100000
set_option maxHeartbeats 8000000
set_option linter.unusedVariables false
set_option linter.unusedSimpArgs false
attribute [local go_sem ↓] Go.wp_at_zero Go.wp_at_succ
theorem own : ownKnob Try.prog.godebug = none := by kernel_rfl

/-- The walk: the Go text returns true; of what was there nothing turns. -/
theorem walk (a1 a2 : Int) (ha1 : I64 a1) (ha2 : I64 a2) (w : World) :
    Calls Try.prog 21 #[.agg #[.int .i64 a1, .int .i64 a2]] w fun e w' => e = .returned (.bool true) ∧ Bw w w' := by
  have c0 := Lib.hid alive6_c
  by_cases hg : a1 ≤ 1125899906842624 ∧ -1125899906842624 ≤ a1 ∧ a2 ≤ 1125899906842624 ∧ -1125899906842624 ≤ a2
  rotate_left
  · have h0 : (1125899906842624 < a1) ∨ (¬ 1125899906842624 < a1 ∧ a1 < -1125899906842624) ∨ (¬ 1125899906842624 < a1 ∧ ¬ a1 < -1125899906842624 ∧ 1125899906842624 < a2) ∨ (¬ 1125899906842624 < a1 ∧ ¬ a1 < -1125899906842624 ∧ ¬ 1125899906842624 < a2 ∧ a2 < -1125899906842624) := by omega
    clear hg
    rcases h0 with h1 | ⟨h1, h2⟩ | ⟨h1, h2, h3⟩ | ⟨h1, h2, h3, h4⟩
    · skip
      go_enter Try.func21, Try.ntmps21
      go_wp2_with fail
      (with_reducible refine (c0.out _).mono ?_); rintro en w1 ⟨rfl, hb⟩
      have G1 : Below w.heap.size w w1 := Below.trans (by (repeat (with_reducible refine M.Below.drewN ?_ _)); go_grown) (hb.mono (by go_size))
      have S1 := G1.size; clear hb
      go_wp2_with fail
      go_ret
      exact ⟨rfl, by (repeat (with_reducible refine M.Below.drewN ?_ _)); go_grown⟩
    · skip
      go_enter Try.func21, Try.ntmps21
      go_wp2_with fail
      (with_reducible refine (c0.out _).mono ?_); rintro en w1 ⟨rfl, hb⟩
      have G1 : Below w.heap.size w w1 := Below.trans (by (repeat (with_reducible refine M.Below.drewN ?_ _)); go_grown) (hb.mono (by go_size))
      have S1 := G1.size; clear hb
      go_wp2_with fail
      go_ret
      exact ⟨rfl, by (repeat (with_reducible refine M.Below.drewN ?_ _)); go_grown⟩
    · skip
      go_enter Try.func21, Try.ntmps21
      go_wp2_with fail
      (with_reducible refine (c0.out _).mono ?_); rintro en w1 ⟨rfl, hb⟩
      have G1 : Below w.heap.size w w1 := Below.trans (by (repeat (with_reducible refine M.Below.drewN ?_ _)); go_grown) (hb.mono (by go_size))
      have S1 := G1.size; clear hb
      go_wp2_with fail
      go_ret
      exact ⟨rfl, by (repeat (with_reducible refine M.Below.drewN ?_ _)); go_grown⟩
    · skip
      go_enter Try.func21, Try.ntmps21
      go_wp2_with fail
      (with_reducible refine (c0.out _).mono ?_); rintro en w1 ⟨rfl, hb⟩
      have G1 : Below w.heap.size w w1 := Below.trans (by (repeat (with_reducible refine M.Below.drewN ?_ _)); go_grown) (hb.mono (by go_size))
      have S1 := G1.size; clear hb
      go_wp2_with fail
      go_ret
      exact ⟨rfl, by (repeat (with_reducible refine M.Below.drewN ?_ _)); go_grown⟩
  obtain ⟨g1, g2, g3, g4⟩ := hg
  have hN : Near (a1, a2) 1125899906842624 := by unfold Near; dsimp only; omega
  by_cases hz : (a1, a2) = ((0 : Int), (0 : Int))
  · obtain ⟨rfl, rfl⟩ := Prod.mk.inj hz
    have E1 := Lib.hid (show unitX (0, 0) = .ok ((0, 0), 0) by rw [unitX_near (by unfold Near; dsimp only; omega)]; unfold uV; rw [nrm_00]; rfl)
    have E2 := Lib.hid (show lenX 0 0 = .ok 0 by have := lenX_near (d := (0, 0)) (by unfold Near; dsimp only; omega); rw [nrm_00] at this; exact this)
    go_enter Try.func21, Try.ntmps21
    go_wp2_with fail
    (with_reducible refine (c0.out _).mono ?_); rintro en w1 ⟨rfl, hb⟩
    have G1 : Below w.heap.size w w1 := Below.trans (by (repeat (with_reducible refine M.Below.drewN ?_ _)); go_grown) (hb.mono (by go_size))
    have V1_a : M.Var w1 (w.heap.size) #[.int .i64 0, .int .i64 0] := M.Var.mono (by (repeat (first | (with_reducible assumption) | (with_reducible refine M.var_alloc' _ _ _ ?_; first | rfl | (simp [go_sem]; done)) | (with_reducible refine M.Var.alloc ?_ _) | (with_reducible refine M.Var.drewN ?_ _) | (with_reducible refine M.Var.drew ?_) | (with_reducible refine M.Var.far ?_ _ _ ?hFar; case hFar => (first | omega | ((try simp [go_sem]) <;> omega))) | fail))) hb
    have q1_a_0 := V1_a.c 0 _ rfl
    have q1_a_1 := V1_a.c 1 _ rfl
    have f1_a := V1_a.2.2; have L1_a := V1_a.lt; have N1_a := Nat.ne_of_gt L1_a; have M1_a := Nat.ne_of_lt L1_a
    have HV1_a := Lib.hid V1_a
    have S1 := G1.size; clear hb
    go_wp2_with fail
    refine (try_c 89 #[.pointer (some ⟨w.heap.size, 0, none⟩), .pointer (some ⟨w1.heap.size, 0, none⟩), .pointer (some ⟨w1.heap.size + 1, 0, none⟩), .pointer (some ⟨w1.heap.size + 1 + 1, 0, none⟩)] _ (0) (usV (w1.heap.size) (.ok (0, 0)) ++ usI (w1.heap.size + 1) (.ok 0) ++ usI (w1.heap.size + 1 + 1) (.ok 0)) (fun _ => rfl) ?_ ?_).mono ?_
    · intro u hu; (try simp only [List.mem_append] at hu); (repeat' (obtain hu | hu := (hu : _ ∨ _))); all_goals (first | rw [M.usBx_block hu] | rw [M.usV_block hu] | rw [M.usI_block hu] | rw [M.usHt_block hu] | rw [M.usBd_block hu] | rw [M.usB_block hu] | rw [M.cell_block1 hu] | (exfalso; simp at hu; done)); all_goals ((try simp [go_sem]) <;> omega)
    · intro w1' hb; exact (cloUnits _ _ _ _ 0 0 0 0 0 0 ha1 ha2 ha1 ha2 E1.out E2.out w1' (M.Var.mono (b := w.heap.size) (cs := #[.int .i64 0, .int .i64 0]) (by (repeat (first | (with_reducible assumption) | (with_reducible refine M.var_alloc' _ _ _ ?_; first | rfl | (simp [go_sem]; done)) | (with_reducible refine M.Var.alloc ?_ _) | (with_reducible refine M.Var.drewN ?_ _) | (with_reducible refine M.Var.drew ?_) | (with_reducible refine M.Var.far ?_ _ _ ?hFar; case hFar => (first | omega | ((try simp [go_sem]) <;> omega))) | fail))) hb) (M.Var.mono (b := w1.heap.size) (cs := #[.int .i64 0, .int .i64 0]) (by (repeat (first | (with_reducible assumption) | (with_reducible refine M.var_alloc' _ _ _ ?_; first | rfl | (simp [go_sem]; done)) | (with_reducible refine M.Var.alloc ?_ _) | (with_reducible refine M.Var.drewN ?_ _) | (with_reducible refine M.Var.drew ?_) | (with_reducible refine M.Var.far ?_ _ _ ?hFar; case hFar => (first | omega | ((try simp [go_sem]) <;> omega))) | fail))) hb) (M.Var.mono (b := w1.heap.size + 1) (cs := #[.int .i64 0]) (by (repeat (first | (with_reducible assumption) | (with_reducible refine M.var_alloc' _ _ _ ?_; first | rfl | (simp [go_sem]; done)) | (with_reducible refine M.Var.alloc ?_ _) | (with_reducible refine M.Var.drewN ?_ _) | (with_reducible refine M.Var.drew ?_) | (with_reducible refine M.Var.far ?_ _ _ ?hFar; case hFar => (first | omega | ((try simp [go_sem]) <;> omega))) | fail))) hb) (M.Var.mono (b := w1.heap.size + 1 + 1) (cs := #[.int .i64 0]) (by (repeat (first | (with_reducible assumption) | (with_reducible refine M.var_alloc' _ _ _ ?_; first | rfl | (simp [go_sem]; done)) | (with_reducible refine M.Var.alloc ?_ _) | (with_reducible refine M.Var.drewN ?_ _) | (with_reducible refine M.Var.drew ?_) | (with_reducible refine M.Var.far ?_ _ _ ?hFar; case hFar => (first | omega | ((try simp [go_sem]) <;> omega))) | fail))) hb) (by omega) (by omega) (by omega) (by omega) (by omega) (by omega) (by omega) (by omega) (by omega)).mono fun e w' h => h
    rintro en w2 ⟨rfl, hb⟩
    have G2 : Below w.heap.size w w2 := Below.trans (M.below_sets_own (usV (w1.heap.size) (.ok (0, 0)) ++ usI (w1.heap.size + 1) (.ok 0) ++ usI (w1.heap.size + 1 + 1) (.ok 0)) (by (repeat (with_reducible refine M.Below.drewN ?_ _)); go_grown) (by intro u hu; (try simp only [List.mem_append] at hu); (repeat' (obtain hu | hu := (hu : _ ∨ _))); all_goals (first | rw [M.usBx_block hu] | rw [M.usV_block hu] | rw [M.usI_block hu] | rw [M.usHt_block hu] | rw [M.usBd_block hu] | rw [M.usB_block hu] | rw [M.cell_block1 hu] | (exfalso; simp at hu; done)); all_goals ((try simp [go_sem]) <;> omega))) (hb.mono (by go_size))
    have V2_a : M.Var w2 (w.heap.size) #[.int .i64 0, .int .i64 0] := M.Var.mono' (u := M.sets _ (usV (w1.heap.size) (.ok (0, 0)) ++ usI (w1.heap.size + 1) (.ok 0) ++ usI (w1.heap.size + 1 + 1) (.ok 0))) (by (try simp only [M.sets_append]); exact (M.var_sets_far (usI (w1.heap.size + 1 + 1) (.ok 0)) (M.var_sets_far (usI (w1.heap.size + 1) (.ok 0)) (M.var_sets_far (usV (w1.heap.size) (.ok (0, 0))) (by (repeat (first | (with_reducible assumption) | (with_reducible refine M.var_alloc' _ _ _ ?_; first | rfl | (simp [go_sem]; done)) | (with_reducible refine M.Var.alloc ?_ _) | (with_reducible refine M.Var.drewN ?_ _) | (with_reducible refine M.Var.drew ?_) | (with_reducible refine M.Var.far ?_ _ _ ?hFar; case hFar => (first | omega | ((try simp [go_sem]) <;> omega))) | fail)) : M.Var _ (w.heap.size) #[.int .i64 0, .int .i64 0]) (by intro u hu; all_goals (first | rw [M.usBx_block hu] | rw [M.usV_block hu] | rw [M.usI_block hu] | rw [M.usHt_block hu] | rw [M.usBd_block hu] | rw [M.usB_block hu] | rw [M.cell_block1 hu] | (exfalso; simp at hu; done)); all_goals ((try simp [go_sem]) <;> omega))) (by intro u hu; all_goals (first | rw [M.usBx_block hu] | rw [M.usV_block hu] | rw [M.usI_block hu] | rw [M.usHt_block hu] | rw [M.usBd_block hu] | rw [M.usB_block hu] | rw [M.cell_block1 hu] | (exfalso; simp at hu; done)); all_goals ((try simp [go_sem]) <;> omega))) (by intro u hu; all_goals (first | rw [M.usBx_block hu] | rw [M.usV_block hu] | rw [M.usI_block hu] | rw [M.usHt_block hu] | rw [M.usBd_block hu] | rw [M.usB_block hu] | rw [M.cell_block1 hu] | (exfalso; simp at hu; done)); all_goals ((try simp [go_sem]) <;> omega)))) (M.sets_size _ _) hb
    have V2_u : M.Var w2 (w1.heap.size) #[.int .i64 0, .int .i64 0] := M.Var.mono' (u := M.sets _ (usV (w1.heap.size) (.ok (0, 0)) ++ usI (w1.heap.size + 1) (.ok 0) ++ usI (w1.heap.size + 1 + 1) (.ok 0))) (by (try simp only [M.sets_append]); exact (M.var_sets_far (usI (w1.heap.size + 1 + 1) (.ok 0)) (M.var_sets_far (usI (w1.heap.size + 1) (.ok 0)) (M.var_setV (by (repeat (first | (with_reducible assumption) | (with_reducible refine M.var_alloc' _ _ _ ?_; first | rfl | (simp [go_sem]; done)) | (with_reducible refine M.Var.alloc ?_ _) | (with_reducible refine M.Var.drewN ?_ _) | (with_reducible refine M.Var.drew ?_) | (with_reducible refine M.Var.far ?_ _ _ ?hFar; case hFar => (first | omega | ((try simp [go_sem]) <;> omega))) | fail)) : M.Var _ (w1.heap.size) #[.int .i64 0, .int .i64 0]) _ _) (by intro u hu; all_goals (first | rw [M.usBx_block hu] | rw [M.usV_block hu] | rw [M.usI_block hu] | rw [M.usHt_block hu] | rw [M.usBd_block hu] | rw [M.usB_block hu] | rw [M.cell_block1 hu] | (exfalso; simp at hu; done)); all_goals ((try simp [go_sem]) <;> omega))) (by intro u hu; all_goals (first | rw [M.usBx_block hu] | rw [M.usV_block hu] | rw [M.usI_block hu] | rw [M.usHt_block hu] | rw [M.usBd_block hu] | rw [M.usB_block hu] | rw [M.cell_block1 hu] | (exfalso; simp at hu; done)); all_goals ((try simp [go_sem]) <;> omega)))) (M.sets_size _ _) hb
    have V2_n : M.Var w2 (w1.heap.size + 1) #[.int .i64 0] := M.Var.mono' (u := M.sets _ (usV (w1.heap.size) (.ok (0, 0)) ++ usI (w1.heap.size + 1) (.ok 0) ++ usI (w1.heap.size + 1 + 1) (.ok 0))) (by (try simp only [M.sets_append]); exact (M.var_sets_far (usI (w1.heap.size + 1 + 1) (.ok 0)) (M.var_setI (M.var_sets_far (usV (w1.heap.size) (.ok (0, 0))) (by (repeat (first | (with_reducible assumption) | (with_reducible refine M.var_alloc' _ _ _ ?_; first | rfl | (simp [go_sem]; done)) | (with_reducible refine M.Var.alloc ?_ _) | (with_reducible refine M.Var.drewN ?_ _) | (with_reducible refine M.Var.drew ?_) | (with_reducible refine M.Var.far ?_ _ _ ?hFar; case hFar => (first | omega | ((try simp [go_sem]) <;> omega))) | fail)) : M.Var _ (w1.heap.size + 1) #[.int .i64 0]) (by intro u hu; all_goals (first | rw [M.usBx_block hu] | rw [M.usV_block hu] | rw [M.usI_block hu] | rw [M.usHt_block hu] | rw [M.usBd_block hu] | rw [M.usB_block hu] | rw [M.cell_block1 hu] | (exfalso; simp at hu; done)); all_goals ((try simp [go_sem]) <;> omega))) _) (by intro u hu; all_goals (first | rw [M.usBx_block hu] | rw [M.usV_block hu] | rw [M.usI_block hu] | rw [M.usHt_block hu] | rw [M.usBd_block hu] | rw [M.usB_block hu] | rw [M.cell_block1 hu] | (exfalso; simp at hu; done)); all_goals ((try simp [go_sem]) <;> omega)))) (M.sets_size _ _) hb
    have V2_l : M.Var w2 (w1.heap.size + 1 + 1) #[.int .i64 0] := M.Var.mono' (u := M.sets _ (usV (w1.heap.size) (.ok (0, 0)) ++ usI (w1.heap.size + 1) (.ok 0) ++ usI (w1.heap.size + 1 + 1) (.ok 0))) (by (try simp only [M.sets_append]); exact (M.var_setI (M.var_sets_far (usI (w1.heap.size + 1) (.ok 0)) (M.var_sets_far (usV (w1.heap.size) (.ok (0, 0))) (by (repeat (first | (with_reducible assumption) | (with_reducible refine M.var_alloc' _ _ _ ?_; first | rfl | (simp [go_sem]; done)) | (with_reducible refine M.Var.alloc ?_ _) | (with_reducible refine M.Var.drewN ?_ _) | (with_reducible refine M.Var.drew ?_) | (with_reducible refine M.Var.far ?_ _ _ ?hFar; case hFar => (first | omega | ((try simp [go_sem]) <;> omega))) | fail)) : M.Var _ (w1.heap.size + 1 + 1) #[.int .i64 0]) (by intro u hu; all_goals (first | rw [M.usBx_block hu] | rw [M.usV_block hu] | rw [M.usI_block hu] | rw [M.usHt_block hu] | rw [M.usBd_block hu] | rw [M.usB_block hu] | rw [M.cell_block1 hu] | (exfalso; simp at hu; done)); all_goals ((try simp [go_sem]) <;> omega))) (by intro u hu; all_goals (first | rw [M.usBx_block hu] | rw [M.usV_block hu] | rw [M.usI_block hu] | rw [M.usHt_block hu] | rw [M.usBd_block hu] | rw [M.usB_block hu] | rw [M.cell_block1 hu] | (exfalso; simp at hu; done)); all_goals ((try simp [go_sem]) <;> omega))) _)) (M.sets_size _ _) hb
    have q2_a_0 := V2_a.c 0 _ rfl
    have q2_a_1 := V2_a.c 1 _ rfl
    have f2_a := V2_a.2.2; have L2_a := V2_a.lt; have N2_a := Nat.ne_of_gt L2_a; have M2_a := Nat.ne_of_lt L2_a
    have HV2_a := Lib.hid V2_a
    have q2_u_0 := V2_u.c 0 _ rfl
    have q2_u_1 := V2_u.c 1 _ rfl
    have f2_u := V2_u.2.2; have L2_u := V2_u.lt; have N2_u := Nat.ne_of_gt L2_u; have M2_u := Nat.ne_of_lt L2_u
    have HV2_u := Lib.hid V2_u
    have q2_n_0 := V2_n.c 0 _ rfl
    have f2_n := V2_n.2.2; have L2_n := V2_n.lt; have N2_n := Nat.ne_of_gt L2_n; have M2_n := Nat.ne_of_lt L2_n
    have HV2_n := Lib.hid V2_n
    have q2_l_0 := V2_l.c 0 _ rfl
    have f2_l := V2_l.2.2; have L2_l := V2_l.lt; have N2_l := Nat.ne_of_gt L2_l; have M2_l := Nat.ne_of_lt L2_l
    have HV2_l := Lib.hid V2_l
    have S2 := G2.size; clear hb
    go_wp2_with fail
    go_ret
    exact ⟨rfl, by (repeat (with_reducible refine M.Below.drewN ?_ _)); go_grown⟩
  · obtain ⟨l, e2, e1, n0, n1, l0, l1, l2⟩ := unit_long hN hz
    have ub := uV_bounds (d := (a1, a2)) (by unfold Near at *; omega)
    have hne : ¬ (a1 = 0 ∧ a2 = 0) := fun ⟨p, q⟩ => hz (by rw [p, q])
    have hq0 : 0 ≤ 4294967296 / nrm (a1, a2) ∧ 4294967296 / nrm (a1, a2) ≤ 4294967296 := ⟨Int.ediv_nonneg (by omega) (by omega), Int.ediv_le_self _ (by omega)⟩
    have hq : Int.tdiv 4294967296 (nrm (a1, a2)) = 4294967296 / nrm (a1, a2) := Int.tdiv_eq_ediv_of_nonneg (by omega)
    generalize nrm (a1, a2) = n at *
    rcases hU : uV (a1, a2) with ⟨x, y⟩
    rw [hU] at e1 e2 ub
    clear hU
    try dsimp only at ub
    generalize 4294967296 / n = q at *
    have ix : I64 x := by unfold I64; omega
    have iy : I64 y := by unfold I64; omega
    have E1 := Lib.hid e1; have E2 := Lib.hid e2
    clear e1 e2 hz hN
    have hnn : ¬ n = 0 := by omega
    have hl1 : l ≤ 4294967296 + q + 2 := by omega
    have k1 : decide (0 < n) = true := decide_eq_true (by omega)
    have k2 : decide (l ≤ 4294967296 + q + 2) = true := decide_eq_true hl1
    have k3 : decide (4294967292 ≤ l) = true := decide_eq_true (by omega)
    have hk : (n < 1048576 ∧ decide (n < 1048576) = true) ∨ (¬ n < 1048576 ∧ decide (n < 1048576) = false) := by
      by_cases h : n < 1048576
      · exact .inl ⟨h, decide_eq_true h⟩
      · exact .inr ⟨h, decide_eq_false h⟩
    have hne2 : ¬ a1 = 0 ∨ (a1 = 0 ∧ ¬ a2 = 0) := by omega
    clear hne
    rcases hk with ⟨k4, k5⟩ | ⟨k4, k5⟩ <;> rcases hne2 with k6 | ⟨rfl, k7⟩
    · skip
      go_enter Try.func21, Try.ntmps21
      go_wp2_with fail
      (with_reducible refine (c0.out _).mono ?_); rintro en w1 ⟨rfl, hb⟩
      have G1 : Below w.heap.size w w1 := Below.trans (by (repeat (with_reducible refine M.Below.drewN ?_ _)); go_grown) (hb.mono (by go_size))
      have V1_a : M.Var w1 (w.heap.size) #[.int .i64 a1, .int .i64 a2] := M.Var.mono (by (repeat (first | (with_reducible assumption) | (with_reducible refine M.var_alloc' _ _ _ ?_; first | rfl | (simp [go_sem]; done)) | (with_reducible refine M.Var.alloc ?_ _) | (with_reducible refine M.Var.drewN ?_ _) | (with_reducible refine M.Var.drew ?_) | (with_reducible refine M.Var.far ?_ _ _ ?hFar; case hFar => (first | omega | ((try simp [go_sem]) <;> omega))) | fail))) hb
      have q1_a_0 := V1_a.c 0 _ rfl
      have q1_a_1 := V1_a.c 1 _ rfl
      have f1_a := V1_a.2.2; have L1_a := V1_a.lt; have N1_a := Nat.ne_of_gt L1_a; have M1_a := Nat.ne_of_lt L1_a
      have HV1_a := Lib.hid V1_a
      have S1 := G1.size; clear hb
      go_wp2_with fail
      refine (try_c 89 #[.pointer (some ⟨w.heap.size, 0, none⟩), .pointer (some ⟨w1.heap.size, 0, none⟩), .pointer (some ⟨w1.heap.size + 1, 0, none⟩), .pointer (some ⟨w1.heap.size + 1 + 1, 0, none⟩)] _ (0) (usV (w1.heap.size) (.ok (x, y)) ++ usI (w1.heap.size + 1) (.ok n) ++ usI (w1.heap.size + 1 + 1) (.ok l)) (fun _ => rfl) ?_ ?_).mono ?_
      · intro u hu; (try simp only [List.mem_append] at hu); (repeat' (obtain hu | hu := (hu : _ ∨ _))); all_goals (first | rw [M.usBx_block hu] | rw [M.usV_block hu] | rw [M.usI_block hu] | rw [M.usHt_block hu] | rw [M.usBd_block hu] | rw [M.usB_block hu] | rw [M.cell_block1 hu] | (exfalso; simp at hu; done)); all_goals ((try simp [go_sem]) <;> omega)
      · intro w1' hb; exact (cloUnits _ _ _ _ a1 a2 x y n l ha1 ha2 ix iy E1.out E2.out w1' (M.Var.mono (b := w.heap.size) (cs := #[.int .i64 a1, .int .i64 a2]) (by (repeat (first | (with_reducible assumption) | (with_reducible refine M.var_alloc' _ _ _ ?_; first | rfl | (simp [go_sem]; done)) | (with_reducible refine M.Var.alloc ?_ _) | (with_reducible refine M.Var.drewN ?_ _) | (with_reducible refine M.Var.drew ?_) | (with_reducible refine M.Var.far ?_ _ _ ?hFar; case hFar => (first | omega | ((try simp [go_sem]) <;> omega))) | fail))) hb) (M.Var.mono (b := w1.heap.size) (cs := #[.int .i64 0, .int .i64 0]) (by (repeat (first | (with_reducible assumption) | (with_reducible refine M.var_alloc' _ _ _ ?_; first | rfl | (simp [go_sem]; done)) | (with_reducible refine M.Var.alloc ?_ _) | (with_reducible refine M.Var.drewN ?_ _) | (with_reducible refine M.Var.drew ?_) | (with_reducible refine M.Var.far ?_ _ _ ?hFar; case hFar => (first | omega | ((try simp [go_sem]) <;> omega))) | fail))) hb) (M.Var.mono (b := w1.heap.size + 1) (cs := #[.int .i64 0]) (by (repeat (first | (with_reducible assumption) | (with_reducible refine M.var_alloc' _ _ _ ?_; first | rfl | (simp [go_sem]; done)) | (with_reducible refine M.Var.alloc ?_ _) | (with_reducible refine M.Var.drewN ?_ _) | (with_reducible refine M.Var.drew ?_) | (with_reducible refine M.Var.far ?_ _ _ ?hFar; case hFar => (first | omega | ((try simp [go_sem]) <;> omega))) | fail))) hb) (M.Var.mono (b := w1.heap.size + 1 + 1) (cs := #[.int .i64 0]) (by (repeat (first | (with_reducible assumption) | (with_reducible refine M.var_alloc' _ _ _ ?_; first | rfl | (simp [go_sem]; done)) | (with_reducible refine M.Var.alloc ?_ _) | (with_reducible refine M.Var.drewN ?_ _) | (with_reducible refine M.Var.drew ?_) | (with_reducible refine M.Var.far ?_ _ _ ?hFar; case hFar => (first | omega | ((try simp [go_sem]) <;> omega))) | fail))) hb) (by omega) (by omega) (by omega) (by omega) (by omega) (by omega) (by omega) (by omega) (by omega)).mono fun e w' h => h
      rintro en w2 ⟨rfl, hb⟩
      have G2 : Below w.heap.size w w2 := Below.trans (M.below_sets_own (usV (w1.heap.size) (.ok (x, y)) ++ usI (w1.heap.size + 1) (.ok n) ++ usI (w1.heap.size + 1 + 1) (.ok l)) (by (repeat (with_reducible refine M.Below.drewN ?_ _)); go_grown) (by intro u hu; (try simp only [List.mem_append] at hu); (repeat' (obtain hu | hu := (hu : _ ∨ _))); all_goals (first | rw [M.usBx_block hu] | rw [M.usV_block hu] | rw [M.usI_block hu] | rw [M.usHt_block hu] | rw [M.usBd_block hu] | rw [M.usB_block hu] | rw [M.cell_block1 hu] | (exfalso; simp at hu; done)); all_goals ((try simp [go_sem]) <;> omega))) (hb.mono (by go_size))
      have V2_a : M.Var w2 (w.heap.size) #[.int .i64 a1, .int .i64 a2] := M.Var.mono' (u := M.sets _ (usV (w1.heap.size) (.ok (x, y)) ++ usI (w1.heap.size + 1) (.ok n) ++ usI (w1.heap.size + 1 + 1) (.ok l))) (by (try simp only [M.sets_append]); exact (M.var_sets_far (usI (w1.heap.size + 1 + 1) (.ok l)) (M.var_sets_far (usI (w1.heap.size + 1) (.ok n)) (M.var_sets_far (usV (w1.heap.size) (.ok (x, y))) (by (repeat (first | (with_reducible assumption) | (with_reducible refine M.var_alloc' _ _ _ ?_; first | rfl | (simp [go_sem]; done)) | (with_reducible refine M.Var.alloc ?_ _) | (with_reducible refine M.Var.drewN ?_ _) | (with_reducible refine M.Var.drew ?_) | (with_reducible refine M.Var.far ?_ _ _ ?hFar; case hFar => (first | omega | ((try simp [go_sem]) <;> omega))) | fail)) : M.Var _ (w.heap.size) #[.int .i64 a1, .int .i64 a2]) (by intro u hu; all_goals (first | rw [M.usBx_block hu] | rw [M.usV_block hu] | rw [M.usI_block hu] | rw [M.usHt_block hu] | rw [M.usBd_block hu] | rw [M.usB_block hu] | rw [M.cell_block1 hu] | (exfalso; simp at hu; done)); all_goals ((try simp [go_sem]) <;> omega))) (by intro u hu; all_goals (first | rw [M.usBx_block hu] | rw [M.usV_block hu] | rw [M.usI_block hu] | rw [M.usHt_block hu] | rw [M.usBd_block hu] | rw [M.usB_block hu] | rw [M.cell_block1 hu] | (exfalso; simp at hu; done)); all_goals ((try simp [go_sem]) <;> omega))) (by intro u hu; all_goals (first | rw [M.usBx_block hu] | rw [M.usV_block hu] | rw [M.usI_block hu] | rw [M.usHt_block hu] | rw [M.usBd_block hu] | rw [M.usB_block hu] | rw [M.cell_block1 hu] | (exfalso; simp at hu; done)); all_goals ((try simp [go_sem]) <;> omega)))) (M.sets_size _ _) hb
      have V2_u : M.Var w2 (w1.heap.size) #[.int .i64 x, .int .i64 y] := M.Var.mono' (u := M.sets _ (usV (w1.heap.size) (.ok (x, y)) ++ usI (w1.heap.size + 1) (.ok n) ++ usI (w1.heap.size + 1 + 1) (.ok l))) (by (try simp only [M.sets_append]); exact (M.var_sets_far (usI (w1.heap.size + 1 + 1) (.ok l)) (M.var_sets_far (usI (w1.heap.size + 1) (.ok n)) (M.var_setV (by (repeat (first | (with_reducible assumption) | (with_reducible refine M.var_alloc' _ _ _ ?_; first | rfl | (simp [go_sem]; done)) | (with_reducible refine M.Var.alloc ?_ _) | (with_reducible refine M.Var.drewN ?_ _) | (with_reducible refine M.Var.drew ?_) | (with_reducible refine M.Var.far ?_ _ _ ?hFar; case hFar => (first | omega | ((try simp [go_sem]) <;> omega))) | fail)) : M.Var _ (w1.heap.size) #[.int .i64 0, .int .i64 0]) _ _) (by intro u hu; all_goals (first | rw [M.usBx_block hu] | rw [M.usV_block hu] | rw [M.usI_block hu] | rw [M.usHt_block hu] | rw [M.usBd_block hu] | rw [M.usB_block hu] | rw [M.cell_block1 hu] | (exfalso; simp at hu; done)); all_goals ((try simp [go_sem]) <;> omega))) (by intro u hu; all_goals (first | rw [M.usBx_block hu] | rw [M.usV_block hu] | rw [M.usI_block hu] | rw [M.usHt_block hu] | rw [M.usBd_block hu] | rw [M.usB_block hu] | rw [M.cell_block1 hu] | (exfalso; simp at hu; done)); all_goals ((try simp [go_sem]) <;> omega)))) (M.sets_size _ _) hb
      have V2_n : M.Var w2 (w1.heap.size + 1) #[.int .i64 n] := M.Var.mono' (u := M.sets _ (usV (w1.heap.size) (.ok (x, y)) ++ usI (w1.heap.size + 1) (.ok n) ++ usI (w1.heap.size + 1 + 1) (.ok l))) (by (try simp only [M.sets_append]); exact (M.var_sets_far (usI (w1.heap.size + 1 + 1) (.ok l)) (M.var_setI (M.var_sets_far (usV (w1.heap.size) (.ok (x, y))) (by (repeat (first | (with_reducible assumption) | (with_reducible refine M.var_alloc' _ _ _ ?_; first | rfl | (simp [go_sem]; done)) | (with_reducible refine M.Var.alloc ?_ _) | (with_reducible refine M.Var.drewN ?_ _) | (with_reducible refine M.Var.drew ?_) | (with_reducible refine M.Var.far ?_ _ _ ?hFar; case hFar => (first | omega | ((try simp [go_sem]) <;> omega))) | fail)) : M.Var _ (w1.heap.size + 1) #[.int .i64 0]) (by intro u hu; all_goals (first | rw [M.usBx_block hu] | rw [M.usV_block hu] | rw [M.usI_block hu] | rw [M.usHt_block hu] | rw [M.usBd_block hu] | rw [M.usB_block hu] | rw [M.cell_block1 hu] | (exfalso; simp at hu; done)); all_goals ((try simp [go_sem]) <;> omega))) _) (by intro u hu; all_goals (first | rw [M.usBx_block hu] | rw [M.usV_block hu] | rw [M.usI_block hu] | rw [M.usHt_block hu] | rw [M.usBd_block hu] | rw [M.usB_block hu] | rw [M.cell_block1 hu] | (exfalso; simp at hu; done)); all_goals ((try simp [go_sem]) <;> omega)))) (M.sets_size _ _) hb
      have V2_l : M.Var w2 (w1.heap.size + 1 + 1) #[.int .i64 l] := M.Var.mono' (u := M.sets _ (usV (w1.heap.size) (.ok (x, y)) ++ usI (w1.heap.size + 1) (.ok n) ++ usI (w1.heap.size + 1 + 1) (.ok l))) (by (try simp only [M.sets_append]); exact (M.var_setI (M.var_sets_far (usI (w1.heap.size + 1) (.ok n)) (M.var_sets_far (usV (w1.heap.size) (.ok (x, y))) (by (repeat (first | (with_reducible assumption) | (with_reducible refine M.var_alloc' _ _ _ ?_; first | rfl | (simp [go_sem]; done)) | (with_reducible refine M.Var.alloc ?_ _) | (with_reducible refine M.Var.drewN ?_ _) | (with_reducible refine M.Var.drew ?_) | (with_reducible refine M.Var.far ?_ _ _ ?hFar; case hFar => (first | omega | ((try simp [go_sem]) <;> omega))) | fail)) : M.Var _ (w1.heap.size + 1 + 1) #[.int .i64 0]) (by intro u hu; all_goals (first | rw [M.usBx_block hu] | rw [M.usV_block hu] | rw [M.usI_block hu] | rw [M.usHt_block hu] | rw [M.usBd_block hu] | rw [M.usB_block hu] | rw [M.cell_block1 hu] | (exfalso; simp at hu; done)); all_goals ((try simp [go_sem]) <;> omega))) (by intro u hu; all_goals (first | rw [M.usBx_block hu] | rw [M.usV_block hu] | rw [M.usI_block hu] | rw [M.usHt_block hu] | rw [M.usBd_block hu] | rw [M.usB_block hu] | rw [M.cell_block1 hu] | (exfalso; simp at hu; done)); all_goals ((try simp [go_sem]) <;> omega))) _)) (M.sets_size _ _) hb
      have q2_a_0 := V2_a.c 0 _ rfl
      have q2_a_1 := V2_a.c 1 _ rfl
      have f2_a := V2_a.2.2; have L2_a := V2_a.lt; have N2_a := Nat.ne_of_gt L2_a; have M2_a := Nat.ne_of_lt L2_a
      have HV2_a := Lib.hid V2_a
      have q2_u_0 := V2_u.c 0 _ rfl
      have q2_u_1 := V2_u.c 1 _ rfl
      have f2_u := V2_u.2.2; have L2_u := V2_u.lt; have N2_u := Nat.ne_of_gt L2_u; have M2_u := Nat.ne_of_lt L2_u
      have HV2_u := Lib.hid V2_u
      have q2_n_0 := V2_n.c 0 _ rfl
      have f2_n := V2_n.2.2; have L2_n := V2_n.lt; have N2_n := Nat.ne_of_gt L2_n; have M2_n := Nat.ne_of_lt L2_n
      have HV2_n := Lib.hid V2_n
      have q2_l_0 := V2_l.c 0 _ rfl
      have f2_l := V2_l.2.2; have L2_l := V2_l.lt; have N2_l := Nat.ne_of_gt L2_l; have M2_l := Nat.ne_of_lt L2_l
      have HV2_l := Lib.hid V2_l
      have S2 := G2.size; clear hb
      go_wp2_with fail
      refine M.wp_region_later (fun w' => M.Var w' (w1.heap.size) #[.int .i64 x, .int .i64 y] ∧ M.Var w' (w1.heap.size + 1) #[.int .i64 n] ∧ M.Var w' (w1.heap.size + 1 + 1) #[.int .i64 l] ∧ True) (by kernel_rfl) (by kernel_rfl) (fun w' hb => ⟨M.Var.mono (by (repeat (first | (with_reducible assumption) | (with_reducible refine M.var_alloc' _ _ _ ?_; first | rfl | (simp [go_sem]; done)) | (with_reducible refine M.Var.alloc ?_ _) | (with_reducible refine M.Var.drewN ?_ _) | (with_reducible refine M.Var.drew ?_) | (with_reducible refine M.Var.far ?_ _ _ ?hFar; case hFar => (first | omega | ((try simp [go_sem]) <;> omega))) | fail)) : M.Var _ (w1.heap.size) #[.int .i64 x, .int .i64 y]) hb, M.Var.mono (by (repeat (first | (with_reducible assumption) | (with_reducible refine M.var_alloc' _ _ _ ?_; first | rfl | (simp [go_sem]; done)) | (with_reducible refine M.Var.alloc ?_ _) | (with_reducible refine M.Var.drewN ?_ _) | (with_reducible refine M.Var.drew ?_) | (with_reducible refine M.Var.far ?_ _ _ ?hFar; case hFar => (first | omega | ((try simp [go_sem]) <;> omega))) | fail)) : M.Var _ (w1.heap.size + 1) #[.int .i64 n]) hb, M.Var.mono (by (repeat (first | (with_reducible assumption) | (with_reducible refine M.var_alloc' _ _ _ ?_; first | rfl | (simp [go_sem]; done)) | (with_reducible refine M.Var.alloc ?_ _) | (with_reducible refine M.Var.drewN ?_ _) | (with_reducible refine M.Var.drew ?_) | (with_reducible refine M.Var.far ?_ _ _ ?hFar; case hFar => (first | omega | ((try simp [go_sem]) <;> omega))) | fail)) : M.Var _ (w1.heap.size + 1 + 1) #[.int .i64 l]) hb, trivial⟩) ?_
      intro hS
      have z3_u_0 := fun p => (hS p).1.c 0 _ rfl
      have z3_u_1 := fun p => (hS p).1.c 1 _ rfl
      have z3_n_0 := fun p => (hS p).2.1.c 0 _ rfl
      have z3_l_0 := fun p => (hS p).2.2.1.c 0 _ rfl
      have HS := Lib.hid hS; clear hS
      repeat (go_big_quiet_step ((first
          | fail
        )))
      refine wpQuiet_nil ?_
      intro w3 hw'
      obtain ⟨pL, hL⟩ := hw'
      have hb := pL.h; rw [← hL] at hb; clear hL pL
      have G3 : Below w.heap.size w w3 := Below.trans (by (repeat (with_reducible refine M.Below.drewN ?_ _)); go_grown) (hb.mono (by go_size))
      have V3_a : M.Var w3 (w.heap.size) #[.int .i64 a1, .int .i64 a2] := M.Var.mono (by (repeat (first | (with_reducible assumption) | (with_reducible refine M.var_alloc' _ _ _ ?_; first | rfl | (simp [go_sem]; done)) | (with_reducible refine M.Var.alloc ?_ _) | (with_reducible refine M.Var.drewN ?_ _) | (with_reducible refine M.Var.drew ?_) | (with_reducible refine M.Var.far ?_ _ _ ?hFar; case hFar => (first | omega | ((try simp [go_sem]) <;> omega))) | fail))) hb
      have V3_u : M.Var w3 (w1.heap.size) #[.int .i64 x, .int .i64 y] := M.Var.mono (by (repeat (first | (with_reducible assumption) | (with_reducible refine M.var_alloc' _ _ _ ?_; first | rfl | (simp [go_sem]; done)) | (with_reducible refine M.Var.alloc ?_ _) | (with_reducible refine M.Var.drewN ?_ _) | (with_reducible refine M.Var.drew ?_) | (with_reducible refine M.Var.far ?_ _ _ ?hFar; case hFar => (first | omega | ((try simp [go_sem]) <;> omega))) | fail))) hb
      have V3_n : M.Var w3 (w1.heap.size + 1) #[.int .i64 n] := M.Var.mono (by (repeat (first | (with_reducible assumption) | (with_reducible refine M.var_alloc' _ _ _ ?_; first | rfl | (simp [go_sem]; done)) | (with_reducible refine M.Var.alloc ?_ _) | (with_reducible refine M.Var.drewN ?_ _) | (with_reducible refine M.Var.drew ?_) | (with_reducible refine M.Var.far ?_ _ _ ?hFar; case hFar => (first | omega | ((try simp [go_sem]) <;> omega))) | fail))) hb
      have V3_l : M.Var w3 (w1.heap.size + 1 + 1) #[.int .i64 l] := M.Var.mono (by (repeat (first | (with_reducible assumption) | (with_reducible refine M.var_alloc' _ _ _ ?_; first | rfl | (simp [go_sem]; done)) | (with_reducible refine M.Var.alloc ?_ _) | (with_reducible refine M.Var.drewN ?_ _) | (with_reducible refine M.Var.drew ?_) | (with_reducible refine M.Var.far ?_ _ _ ?hFar; case hFar => (first | omega | ((try simp [go_sem]) <;> omega))) | fail))) hb
      have q3_a_0 := V3_a.c 0 _ rfl
      have q3_a_1 := V3_a.c 1 _ rfl
      have f3_a := V3_a.2.2; have L3_a := V3_a.lt; have N3_a := Nat.ne_of_gt L3_a; have M3_a := Nat.ne_of_lt L3_a
      have HV3_a := Lib.hid V3_a
      have q3_u_0 := V3_u.c 0 _ rfl
      have q3_u_1 := V3_u.c 1 _ rfl
      have f3_u := V3_u.2.2; have L3_u := V3_u.lt; have N3_u := Nat.ne_of_gt L3_u; have M3_u := Nat.ne_of_lt L3_u
      have HV3_u := Lib.hid V3_u
      have q3_n_0 := V3_n.c 0 _ rfl
      have f3_n := V3_n.2.2; have L3_n := V3_n.lt; have N3_n := Nat.ne_of_gt L3_n; have M3_n := Nat.ne_of_lt L3_n
      have HV3_n := Lib.hid V3_n
      have q3_l_0 := V3_l.c 0 _ rfl
      have f3_l := V3_l.2.2; have L3_l := V3_l.lt; have N3_l := Nat.ne_of_gt L3_l; have M3_l := Nat.ne_of_lt L3_l
      have HV3_l := Lib.hid V3_l
      have S3 := G3.size; clear hb
      clear z3_u_0 z3_u_1 z3_n_0 z3_l_0 HS
      go_wp2_with fail
      go_ret
      exact ⟨rfl, by (repeat (with_reducible refine M.Below.drewN ?_ _)); go_grown⟩
    · skip
      go_enter Try.func21, Try.ntmps21
      go_wp2_with fail
      (with_reducible refine (c0.out _).mono ?_); rintro en w1 ⟨rfl, hb⟩
      have G1 : Below w.heap.size w w1 := Below.trans (by (repeat (with_reducible refine M.Below.drewN ?_ _)); go_grown) (hb.mono (by go_size))
      have V1_a : M.Var w1 (w.heap.size) #[.int .i64 0, .int .i64 a2] := M.Var.mono (by (repeat (first | (with_reducible assumption) | (with_reducible refine M.var_alloc' _ _ _ ?_; first | rfl | (simp [go_sem]; done)) | (with_reducible refine M.Var.alloc ?_ _) | (with_reducible refine M.Var.drewN ?_ _) | (with_reducible refine M.Var.drew ?_) | (with_reducible refine M.Var.far ?_ _ _ ?hFar; case hFar => (first | omega | ((try simp [go_sem]) <;> omega))) | fail))) hb
      have q1_a_0 := V1_a.c 0 _ rfl
      have q1_a_1 := V1_a.c 1 _ rfl
      have f1_a := V1_a.2.2; have L1_a := V1_a.lt; have N1_a := Nat.ne_of_gt L1_a; have M1_a := Nat.ne_of_lt L1_a
      have HV1_a := Lib.hid V1_a
      have S1 := G1.size; clear hb
      go_wp2_with fail
      refine (try_c 89 #[.pointer (some ⟨w.heap.size, 0, none⟩), .pointer (some ⟨w1.heap.size, 0, none⟩), .pointer (some ⟨w1.heap.size + 1, 0, none⟩), .pointer (some ⟨w1.heap.size + 1 + 1, 0, none⟩)] _ (0) (usV (w1.heap.size) (.ok (x, y)) ++ usI (w1.heap.size + 1) (.ok n) ++ usI (w1.heap.size + 1 + 1) (.ok l)) (fun _ => rfl) ?_ ?_).mono ?_
      · intro u hu; (try simp only [List.mem_append] at hu); (repeat' (obtain hu | hu := (hu : _ ∨ _))); all_goals (first | rw [M.usBx_block hu] | rw [M.usV_block hu] | rw [M.usI_block hu] | rw [M.usHt_block hu] | rw [M.usBd_block hu] | rw [M.usB_block hu] | rw [M.cell_block1 hu] | (exfalso; simp at hu; done)); all_goals ((try simp [go_sem]) <;> omega)
      · intro w1' hb; exact (cloUnits _ _ _ _ 0 a2 x y n l ha1 ha2 ix iy E1.out E2.out w1' (M.Var.mono (b := w.heap.size) (cs := #[.int .i64 0, .int .i64 a2]) (by (repeat (first | (with_reducible assumption) | (with_reducible refine M.var_alloc' _ _ _ ?_; first | rfl | (simp [go_sem]; done)) | (with_reducible refine M.Var.alloc ?_ _) | (with_reducible refine M.Var.drewN ?_ _) | (with_reducible refine M.Var.drew ?_) | (with_reducible refine M.Var.far ?_ _ _ ?hFar; case hFar => (first | omega | ((try simp [go_sem]) <;> omega))) | fail))) hb) (M.Var.mono (b := w1.heap.size) (cs := #[.int .i64 0, .int .i64 0]) (by (repeat (first | (with_reducible assumption) | (with_reducible refine M.var_alloc' _ _ _ ?_; first | rfl | (simp [go_sem]; done)) | (with_reducible refine M.Var.alloc ?_ _) | (with_reducible refine M.Var.drewN ?_ _) | (with_reducible refine M.Var.drew ?_) | (with_reducible refine M.Var.far ?_ _ _ ?hFar; case hFar => (first | omega | ((try simp [go_sem]) <;> omega))) | fail))) hb) (M.Var.mono (b := w1.heap.size + 1) (cs := #[.int .i64 0]) (by (repeat (first | (with_reducible assumption) | (with_reducible refine M.var_alloc' _ _ _ ?_; first | rfl | (simp [go_sem]; done)) | (with_reducible refine M.Var.alloc ?_ _) | (with_reducible refine M.Var.drewN ?_ _) | (with_reducible refine M.Var.drew ?_) | (with_reducible refine M.Var.far ?_ _ _ ?hFar; case hFar => (first | omega | ((try simp [go_sem]) <;> omega))) | fail))) hb) (M.Var.mono (b := w1.heap.size + 1 + 1) (cs := #[.int .i64 0]) (by (repeat (first | (with_reducible assumption) | (with_reducible refine M.var_alloc' _ _ _ ?_; first | rfl | (simp [go_sem]; done)) | (with_reducible refine M.Var.alloc ?_ _) | (with_reducible refine M.Var.drewN ?_ _) | (with_reducible refine M.Var.drew ?_) | (with_reducible refine M.Var.far ?_ _ _ ?hFar; case hFar => (first | omega | ((try simp [go_sem]) <;> omega))) | fail))) hb) (by omega) (by omega) (by omega) (by omega) (by omega) (by omega) (by omega) (by omega) (by omega)).mono fun e w' h => h
      rintro en w2 ⟨rfl, hb⟩
      have G2 : Below w.heap.size w w2 := Below.trans (M.below_sets_own (usV (w1.heap.size) (.ok (x, y)) ++ usI (w1.heap.size + 1) (.ok n) ++ usI (w1.heap.size + 1 + 1) (.ok l)) (by (repeat (with_reducible refine M.Below.drewN ?_ _)); go_grown) (by intro u hu; (try simp only [List.mem_append] at hu); (repeat' (obtain hu | hu := (hu : _ ∨ _))); all_goals (first | rw [M.usBx_block hu] | rw [M.usV_block hu] | rw [M.usI_block hu] | rw [M.usHt_block hu] | rw [M.usBd_block hu] | rw [M.usB_block hu] | rw [M.cell_block1 hu] | (exfalso; simp at hu; done)); all_goals ((try simp [go_sem]) <;> omega))) (hb.mono (by go_size))
      have V2_a : M.Var w2 (w.heap.size) #[.int .i64 0, .int .i64 a2] := M.Var.mono' (u := M.sets _ (usV (w1.heap.size) (.ok (x, y)) ++ usI (w1.heap.size + 1) (.ok n) ++ usI (w1.heap.size + 1 + 1) (.ok l))) (by (try simp only [M.sets_append]); exact (M.var_sets_far (usI (w1.heap.size + 1 + 1) (.ok l)) (M.var_sets_far (usI (w1.heap.size + 1) (.ok n)) (M.var_sets_far (usV (w1.heap.size) (.ok (x, y))) (by (repeat (first | (with_reducible assumption) | (with_reducible refine M.var_alloc' _ _ _ ?_; first | rfl | (simp [go_sem]; done)) | (with_reducible refine M.Var.alloc ?_ _) | (with_reducible refine M.Var.drewN ?_ _) | (with_reducible refine M.Var.drew ?_) | (with_reducible refine M.Var.far ?_ _ _ ?hFar; case hFar => (first | omega | ((try simp [go_sem]) <;> omega))) | fail)) : M.Var _ (w.heap.size) #[.int .i64 0, .int .i64 a2]) (by intro u hu; all_goals (first | rw [M.usBx_block hu] | rw [M.usV_block hu] | rw [M.usI_block hu] | rw [M.usHt_block hu] | rw [M.usBd_block hu] | rw [M.usB_block hu] | rw [M.cell_block1 hu] | (exfalso; simp at hu; done)); all_goals ((try simp [go_sem]) <;> omega))) (by intro u hu; all_goals (first | rw [M.usBx_block hu] | rw [M.usV_block hu] | rw [M.usI_block hu] | rw [M.usHt_block hu] | rw [M.usBd_block hu] | rw [M.usB_block hu] | rw [M.cell_block1 hu] | (exfalso; simp at hu; done)); all_goals ((try simp [go_sem]) <;> omega))) (by intro u hu; all_goals (first | rw [M.usBx_block hu] | rw [M.usV_block hu] | rw [M.usI_block hu] | rw [M.usHt_block hu] | rw [M.usBd_block hu] | rw [M.usB_block hu] | rw [M.cell_block1 hu] | (exfalso; simp at hu; done)); all_goals ((try simp [go_sem]) <;> omega)))) (M.sets_size _ _) hb
      have V2_u : M.Var w2 (w1.heap.size) #[.int .i64 x, .int .i64 y] := M.Var.mono' (u := M.sets _ (usV (w1.heap.size) (.ok (x, y)) ++ usI (w1.heap.size + 1) (.ok n) ++ usI (w1.heap.size + 1 + 1) (.ok l))) (by (try simp only [M.sets_append]); exact (M.var_sets_far (usI (w1.heap.size + 1 + 1) (.ok l)) (M.var_sets_far (usI (w1.heap.size + 1) (.ok n)) (M.var_setV (by (repeat (first | (with_reducible assumption) | (with_reducible refine M.var_alloc' _ _ _ ?_; first | rfl | (simp [go_sem]; done)) | (with_reducible refine M.Var.alloc ?_ _) | (with_reducible refine M.Var.drewN ?_ _) | (with_reducible refine M.Var.drew ?_) | (with_reducible refine M.Var.far ?_ _ _ ?hFar; case hFar => (first | omega | ((try simp [go_sem]) <;> omega))) | fail)) : M.Var _ (w1.heap.size) #[.int .i64 0, .int .i64 0]) _ _) (by intro u hu; all_goals (first | rw [M.usBx_block hu] | rw [M.usV_block hu] | rw [M.usI_block hu] | rw [M.usHt_block hu] | rw [M.usBd_block hu] | rw [M.usB_block hu] | rw [M.cell_block1 hu] | (exfalso; simp at hu; done)); all_goals ((try simp [go_sem]) <;> omega))) (by intro u hu; all_goals (first | rw [M.usBx_block hu] | rw [M.usV_block hu] | rw [M.usI_block hu] | rw [M.usHt_block hu] | rw [M.usBd_block hu] | rw [M.usB_block hu] | rw [M.cell_block1 hu] | (exfalso; simp at hu; done)); all_goals ((try simp [go_sem]) <;> omega)))) (M.sets_size _ _) hb
      have V2_n : M.Var w2 (w1.heap.size + 1) #[.int .i64 n] := M.Var.mono' (u := M.sets _ (usV (w1.heap.size) (.ok (x, y)) ++ usI (w1.heap.size + 1) (.ok n) ++ usI (w1.heap.size + 1 + 1) (.ok l))) (by (try simp only [M.sets_append]); exact (M.var_sets_far (usI (w1.heap.size + 1 + 1) (.ok l)) (M.var_setI (M.var_sets_far (usV (w1.heap.size) (.ok (x, y))) (by (repeat (first | (with_reducible assumption) | (with_reducible refine M.var_alloc' _ _ _ ?_; first | rfl | (simp [go_sem]; done)) | (with_reducible refine M.Var.alloc ?_ _) | (with_reducible refine M.Var.drewN ?_ _) | (with_reducible refine M.Var.drew ?_) | (with_reducible refine M.Var.far ?_ _ _ ?hFar; case hFar => (first | omega | ((try simp [go_sem]) <;> omega))) | fail)) : M.Var _ (w1.heap.size + 1) #[.int .i64 0]) (by intro u hu; all_goals (first | rw [M.usBx_block hu] | rw [M.usV_block hu] | rw [M.usI_block hu] | rw [M.usHt_block hu] | rw [M.usBd_block hu] | rw [M.usB_block hu] | rw [M.cell_block1 hu] | (exfalso; simp at hu; done)); all_goals ((try simp [go_sem]) <;> omega))) _) (by intro u hu; all_goals (first | rw [M.usBx_block hu] | rw [M.usV_block hu] | rw [M.usI_block hu] | rw [M.usHt_block hu] | rw [M.usBd_block hu] | rw [M.usB_block hu] | rw [M.cell_block1 hu] | (exfalso; simp at hu; done)); all_goals ((try simp [go_sem]) <;> omega)))) (M.sets_size _ _) hb
      have V2_l : M.Var w2 (w1.heap.size + 1 + 1) #[.int .i64 l] := M.Var.mono' (u := M.sets _ (usV (w1.heap.size) (.ok (x, y)) ++ usI (w1.heap.size + 1) (.ok n) ++ usI (w1.heap.size + 1 + 1) (.ok l))) (by (try simp only [M.sets_append]); exact (M.var_setI (M.var_sets_far (usI (w1.heap.size + 1) (.ok n)) (M.var_sets_far (usV (w1.heap.size) (.ok (x, y))) (by (repeat (first | (with_reducible assumption) | (with_reducible refine M.var_alloc' _ _ _ ?_; first | rfl | (simp [go_sem]; done)) | (with_reducible refine M.Var.alloc ?_ _) | (with_reducible refine M.Var.drewN ?_ _) | (with_reducible refine M.Var.drew ?_) | (with_reducible refine M.Var.far ?_ _ _ ?hFar; case hFar => (first | omega | ((try simp [go_sem]) <;> omega))) | fail)) : M.Var _ (w1.heap.size + 1 + 1) #[.int .i64 0]) (by intro u hu; all_goals (first | rw [M.usBx_block hu] | rw [M.usV_block hu] | rw [M.usI_block hu] | rw [M.usHt_block hu] | rw [M.usBd_block hu] | rw [M.usB_block hu] | rw [M.cell_block1 hu] | (exfalso; simp at hu; done)); all_goals ((try simp [go_sem]) <;> omega))) (by intro u hu; all_goals (first | rw [M.usBx_block hu] | rw [M.usV_block hu] | rw [M.usI_block hu] | rw [M.usHt_block hu] | rw [M.usBd_block hu] | rw [M.usB_block hu] | rw [M.cell_block1 hu] | (exfalso; simp at hu; done)); all_goals ((try simp [go_sem]) <;> omega))) _)) (M.sets_size _ _) hb
      have q2_a_0 := V2_a.c 0 _ rfl
      have q2_a_1 := V2_a.c 1 _ rfl
      have f2_a := V2_a.2.2; have L2_a := V2_a.lt; have N2_a := Nat.ne_of_gt L2_a; have M2_a := Nat.ne_of_lt L2_a
      have HV2_a := Lib.hid V2_a
      have q2_u_0 := V2_u.c 0 _ rfl
      have q2_u_1 := V2_u.c 1 _ rfl
      have f2_u := V2_u.2.2; have L2_u := V2_u.lt; have N2_u := Nat.ne_of_gt L2_u; have M2_u := Nat.ne_of_lt L2_u
      have HV2_u := Lib.hid V2_u
      have q2_n_0 := V2_n.c 0 _ rfl
      have f2_n := V2_n.2.2; have L2_n := V2_n.lt; have N2_n := Nat.ne_of_gt L2_n; have M2_n := Nat.ne_of_lt L2_n
      have HV2_n := Lib.hid V2_n
      have q2_l_0 := V2_l.c 0 _ rfl
      have f2_l := V2_l.2.2; have L2_l := V2_l.lt; have N2_l := Nat.ne_of_gt L2_l; have M2_l := Nat.ne_of_lt L2_l
      have HV2_l := Lib.hid V2_l
      have S2 := G2.size; clear hb
      go_wp2_with fail
      refine M.wp_region_later (fun w' => M.Var w' (w1.heap.size) #[.int .i64 x, .int .i64 y] ∧ M.Var w' (w1.heap.size + 1) #[.int .i64 n] ∧ M.Var w' (w1.heap.size + 1 + 1) #[.int .i64 l] ∧ True) (by kernel_rfl) (by kernel_rfl) (fun w' hb => ⟨M.Var.mono (by (repeat (first | (with_reducible assumption) | (with_reducible refine M.var_alloc' _ _ _ ?_; first | rfl | (simp [go_sem]; done)) | (with_reducible refine M.Var.alloc ?_ _) | (with_reducible refine M.Var.drewN ?_ _) | (with_reducible refine M.Var.drew ?_) | (with_reducible refine M.Var.far ?_ _ _ ?hFar; case hFar => (first | omega | ((try simp [go_sem]) <;> omega))) | fail)) : M.Var _ (w1.heap.size) #[.int .i64 x, .int .i64 y]) hb, M.Var.mono (by (repeat (first | (with_reducible assumption) | (with_reducible refine M.var_alloc' _ _ _ ?_; first | rfl | (simp [go_sem]; done)) | (with_reducible refine M.Var.alloc ?_ _) | (with_reducible refine M.Var.drewN ?_ _) | (with_reducible refine M.Var.drew ?_) | (with_reducible refine M.Var.far ?_ _ _ ?hFar; case hFar => (first | omega | ((try simp [go_sem]) <;> omega))) | fail)) : M.Var _ (w1.heap.size + 1) #[.int .i64 n]) hb, M.Var.mono (by (repeat (first | (with_reducible assumption) | (with_reducible refine M.var_alloc' _ _ _ ?_; first | rfl | (simp [go_sem]; done)) | (with_reducible refine M.Var.alloc ?_ _) | (with_reducible refine M.Var.drewN ?_ _) | (with_reducible refine M.Var.drew ?_) | (with_reducible refine M.Var.far ?_ _ _ ?hFar; case hFar => (first | omega | ((try simp [go_sem]) <;> omega))) | fail)) : M.Var _ (w1.heap.size + 1 + 1) #[.int .i64 l]) hb, trivial⟩) ?_
      intro hS
      have z3_u_0 := fun p => (hS p).1.c 0 _ rfl
      have z3_u_1 := fun p => (hS p).1.c 1 _ rfl
      have z3_n_0 := fun p => (hS p).2.1.c 0 _ rfl
      have z3_l_0 := fun p => (hS p).2.2.1.c 0 _ rfl
      have HS := Lib.hid hS; clear hS
      repeat (go_big_quiet_step ((first
          | fail
        )))
      refine wpQuiet_nil ?_
      intro w3 hw'
      obtain ⟨pL, hL⟩ := hw'
      have hb := pL.h; rw [← hL] at hb; clear hL pL
      have G3 : Below w.heap.size w w3 := Below.trans (by (repeat (with_reducible refine M.Below.drewN ?_ _)); go_grown) (hb.mono (by go_size))
      have V3_a : M.Var w3 (w.heap.size) #[.int .i64 0, .int .i64 a2] := M.Var.mono (by (repeat (first | (with_reducible assumption) | (with_reducible refine M.var_alloc' _ _ _ ?_; first | rfl | (simp [go_sem]; done)) | (with_reducible refine M.Var.alloc ?_ _) | (with_reducible refine M.Var.drewN ?_ _) | (with_reducible refine M.Var.drew ?_) | (with_reducible refine M.Var.far ?_ _ _ ?hFar; case hFar => (first | omega | ((try simp [go_sem]) <;> omega))) | fail))) hb
      have V3_u : M.Var w3 (w1.heap.size) #[.int .i64 x, .int .i64 y] := M.Var.mono (by (repeat (first | (with_reducible assumption) | (with_reducible refine M.var_alloc' _ _ _ ?_; first | rfl | (simp [go_sem]; done)) | (with_reducible refine M.Var.alloc ?_ _) | (with_reducible refine M.Var.drewN ?_ _) | (with_reducible refine M.Var.drew ?_) | (with_reducible refine M.Var.far ?_ _ _ ?hFar; case hFar => (first | omega | ((try simp [go_sem]) <;> omega))) | fail))) hb
      have V3_n : M.Var w3 (w1.heap.size + 1) #[.int .i64 n] := M.Var.mono (by (repeat (first | (with_reducible assumption) | (with_reducible refine M.var_alloc' _ _ _ ?_; first | rfl | (simp [go_sem]; done)) | (with_reducible refine M.Var.alloc ?_ _) | (with_reducible refine M.Var.drewN ?_ _) | (with_reducible refine M.Var.drew ?_) | (with_reducible refine M.Var.far ?_ _ _ ?hFar; case hFar => (first | omega | ((try simp [go_sem]) <;> omega))) | fail))) hb
      have V3_l : M.Var w3 (w1.heap.size + 1 + 1) #[.int .i64 l] := M.Var.mono (by (repeat (first | (with_reducible assumption) | (with_reducible refine M.var_alloc' _ _ _ ?_; first | rfl | (simp [go_sem]; done)) | (with_reducible refine M.Var.alloc ?_ _) | (with_reducible refine M.Var.drewN ?_ _) | (with_reducible refine M.Var.drew ?_) | (with_reducible refine M.Var.far ?_ _ _ ?hFar; case hFar => (first | omega | ((try simp [go_sem]) <;> omega))) | fail))) hb
      have q3_a_0 := V3_a.c 0 _ rfl
      have q3_a_1 := V3_a.c 1 _ rfl
      have f3_a := V3_a.2.2; have L3_a := V3_a.lt; have N3_a := Nat.ne_of_gt L3_a; have M3_a := Nat.ne_of_lt L3_a
      have HV3_a := Lib.hid V3_a
      have q3_u_0 := V3_u.c 0 _ rfl
      have q3_u_1 := V3_u.c 1 _ rfl
      have f3_u := V3_u.2.2; have L3_u := V3_u.lt; have N3_u := Nat.ne_of_gt L3_u; have M3_u := Nat.ne_of_lt L3_u
      have HV3_u := Lib.hid V3_u
      have q3_n_0 := V3_n.c 0 _ rfl
      have f3_n := V3_n.2.2; have L3_n := V3_n.lt; have N3_n := Nat.ne_of_gt L3_n; have M3_n := Nat.ne_of_lt L3_n
      have HV3_n := Lib.hid V3_n
      have q3_l_0 := V3_l.c 0 _ rfl
      have f3_l := V3_l.2.2; have L3_l := V3_l.lt; have N3_l := Nat.ne_of_gt L3_l; have M3_l := Nat.ne_of_lt L3_l
      have HV3_l := Lib.hid V3_l
      have S3 := G3.size; clear hb
      clear z3_u_0 z3_u_1 z3_n_0 z3_l_0 HS
      go_wp2_with fail
      go_ret
      exact ⟨rfl, by (repeat (with_reducible refine M.Below.drewN ?_ _)); go_grown⟩
    · skip
      go_enter Try.func21, Try.ntmps21
      go_wp2_with fail
      (with_reducible refine (c0.out _).mono ?_); rintro en w1 ⟨rfl, hb⟩
      have G1 : Below w.heap.size w w1 := Below.trans (by (repeat (with_reducible refine M.Below.drewN ?_ _)); go_grown) (hb.mono (by go_size))
      have V1_a : M.Var w1 (w.heap.size) #[.int .i64 a1, .int .i64 a2] := M.Var.mono (by (repeat (first | (with_reducible assumption) | (with_reducible refine M.var_alloc' _ _ _ ?_; first | rfl | (simp [go_sem]; done)) | (with_reducible refine M.Var.alloc ?_ _) | (with_reducible refine M.Var.drewN ?_ _) | (with_reducible refine M.Var.drew ?_) | (with_reducible refine M.Var.far ?_ _ _ ?hFar; case hFar => (first | omega | ((try simp [go_sem]) <;> omega))) | fail))) hb
      have q1_a_0 := V1_a.c 0 _ rfl
      have q1_a_1 := V1_a.c 1 _ rfl
      have f1_a := V1_a.2.2; have L1_a := V1_a.lt; have N1_a := Nat.ne_of_gt L1_a; have M1_a := Nat.ne_of_lt L1_a
      have HV1_a := Lib.hid V1_a
      have S1 := G1.size; clear hb
      go_wp2_with fail
      refine (try_c 89 #[.pointer (some ⟨w.heap.size, 0, none⟩), .pointer (some ⟨w1.heap.size, 0, none⟩), .pointer (some ⟨w1.heap.size + 1, 0, none⟩), .pointer (some ⟨w1.heap.size + 1 + 1, 0, none⟩)] _ (0) (usV (w1.heap.size) (.ok (x, y)) ++ usI (w1.heap.size + 1) (.ok n) ++ usI (w1.heap.size + 1 + 1) (.ok l)) (fun _ => rfl) ?_ ?_).mono ?_
      · intro u hu; (try simp only [List.mem_append] at hu); (repeat' (obtain hu | hu := (hu : _ ∨ _))); all_goals (first | rw [M.usBx_block hu] | rw [M.usV_block hu] | rw [M.usI_block hu] | rw [M.usHt_block hu] | rw [M.usBd_block hu] | rw [M.usB_block hu] | rw [M.cell_block1 hu] | (exfalso; simp at hu; done)); all_goals ((try simp [go_sem]) <;> omega)
      · intro w1' hb; exact (cloUnits _ _ _ _ a1 a2 x y n l ha1 ha2 ix iy E1.out E2.out w1' (M.Var.mono (b := w.heap.size) (cs := #[.int .i64 a1, .int .i64 a2]) (by (repeat (first | (with_reducible assumption) | (with_reducible refine M.var_alloc' _ _ _ ?_; first | rfl | (simp [go_sem]; done)) | (with_reducible refine M.Var.alloc ?_ _) | (with_reducible refine M.Var.drewN ?_ _) | (with_reducible refine M.Var.drew ?_) | (with_reducible refine M.Var.far ?_ _ _ ?hFar; case hFar => (first | omega | ((try simp [go_sem]) <;> omega))) | fail))) hb) (M.Var.mono (b := w1.heap.size) (cs := #[.int .i64 0, .int .i64 0]) (by (repeat (first | (with_reducible assumption) | (with_reducible refine M.var_alloc' _ _ _ ?_; first | rfl | (simp [go_sem]; done)) | (with_reducible refine M.Var.alloc ?_ _) | (with_reducible refine M.Var.drewN ?_ _) | (with_reducible refine M.Var.drew ?_) | (with_reducible refine M.Var.far ?_ _ _ ?hFar; case hFar => (first | omega | ((try simp [go_sem]) <;> omega))) | fail))) hb) (M.Var.mono (b := w1.heap.size + 1) (cs := #[.int .i64 0]) (by (repeat (first | (with_reducible assumption) | (with_reducible refine M.var_alloc' _ _ _ ?_; first | rfl | (simp [go_sem]; done)) | (with_reducible refine M.Var.alloc ?_ _) | (with_reducible refine M.Var.drewN ?_ _) | (with_reducible refine M.Var.drew ?_) | (with_reducible refine M.Var.far ?_ _ _ ?hFar; case hFar => (first | omega | ((try simp [go_sem]) <;> omega))) | fail))) hb) (M.Var.mono (b := w1.heap.size + 1 + 1) (cs := #[.int .i64 0]) (by (repeat (first | (with_reducible assumption) | (with_reducible refine M.var_alloc' _ _ _ ?_; first | rfl | (simp [go_sem]; done)) | (with_reducible refine M.Var.alloc ?_ _) | (with_reducible refine M.Var.drewN ?_ _) | (with_reducible refine M.Var.drew ?_) | (with_reducible refine M.Var.far ?_ _ _ ?hFar; case hFar => (first | omega | ((try simp [go_sem]) <;> omega))) | fail))) hb) (by omega) (by omega) (by omega) (by omega) (by omega) (by omega) (by omega) (by omega) (by omega)).mono fun e w' h => h
      rintro en w2 ⟨rfl, hb⟩
      have G2 : Below w.heap.size w w2 := Below.trans (M.below_sets_own (usV (w1.heap.size) (.ok (x, y)) ++ usI (w1.heap.size + 1) (.ok n) ++ usI (w1.heap.size + 1 + 1) (.ok l)) (by (repeat (with_reducible refine M.Below.drewN ?_ _)); go_grown) (by intro u hu; (try simp only [List.mem_append] at hu); (repeat' (obtain hu | hu := (hu : _ ∨ _))); all_goals (first | rw [M.usBx_block hu] | rw [M.usV_block hu] | rw [M.usI_block hu] | rw [M.usHt_block hu] | rw [M.usBd_block hu] | rw [M.usB_block hu] | rw [M.cell_block1 hu] | (exfalso; simp at hu; done)); all_goals ((try simp [go_sem]) <;> omega))) (hb.mono (by go_size))
      have V2_a : M.Var w2 (w.heap.size) #[.int .i64 a1, .int .i64 a2] := M.Var.mono' (u := M.sets _ (usV (w1.heap.size) (.ok (x, y)) ++ usI (w1.heap.size + 1) (.ok n) ++ usI (w1.heap.size + 1 + 1) (.ok l))) (by (try simp only [M.sets_append]); exact (M.var_sets_far (usI (w1.heap.size + 1 + 1) (.ok l)) (M.var_sets_far (usI (w1.heap.size + 1) (.ok n)) (M.var_sets_far (usV (w1.heap.size) (.ok (x, y))) (by (repeat (first | (with_reducible assumption) | (with_reducible refine M.var_alloc' _ _ _ ?_; first | rfl | (simp [go_sem]; done)) | (with_reducible refine M.Var.alloc ?_ _) | (with_reducible refine M.Var.drewN ?_ _) | (with_reducible refine M.Var.drew ?_) | (with_reducible refine M.Var.far ?_ _ _ ?hFar; case hFar => (first | omega | ((try simp [go_sem]) <;> omega))) | fail)) : M.Var _ (w.heap.size) #[.int .i64 a1, .int .i64 a2]) (by intro u hu; all_goals (first | rw [M.usBx_block hu] | rw [M.usV_block hu] | rw [M.usI_block hu] | rw [M.usHt_block hu] | rw [M.usBd_block hu] | rw [M.usB_block hu] | rw [M.cell_block1 hu] | (exfalso; simp at hu; done)); all_goals ((try simp [go_sem]) <;> omega))) (by intro u hu; all_goals (first | rw [M.usBx_block hu] | rw [M.usV_block hu] | rw [M.usI_block hu] | rw [M.usHt_block hu] | rw [M.usBd_block hu] | rw [M.usB_block hu] | rw [M.cell_block1 hu] | (exfalso; simp at hu; done)); all_goals ((try simp [go_sem]) <;> omega))) (by intro u hu; all_goals (first | rw [M.usBx_block hu] | rw [M.usV_block hu] | rw [M.usI_block hu] | rw [M.usHt_block hu] | rw [M.usBd_block hu] | rw [M.usB_block hu] | rw [M.cell_block1 hu] | (exfalso; simp at hu; done)); all_goals ((try simp [go_sem]) <;> omega)))) (M.sets_size _ _) hb
      have V2_u : M.Var w2 (w1.heap.size) #[.int .i64 x, .int .i64 y] := M.Var.mono' (u := M.sets _ (usV (w1.heap.size) (.ok (x, y)) ++ usI (w1.heap.size + 1) (.ok n) ++ usI (w1.heap.size + 1 + 1) (.ok l))) (by (try simp only [M.sets_append]); exact (M.var_sets_far (usI (w1.heap.size + 1 + 1) (.ok l)) (M.var_sets_far (usI (w1.heap.size + 1) (.ok n)) (M.var_setV (by (repeat (first | (with_reducible assumption) | (with_reducible refine M.var_alloc' _ _ _ ?_; first | rfl | (simp [go_sem]; done)) | (with_reducible refine M.Var.alloc ?_ _) | (with_reducible refine M.Var.drewN ?_ _) | (with_reducible refine M.Var.drew ?_) | (with_reducible refine M.Var.far ?_ _ _ ?hFar; case hFar => (first | omega | ((try simp [go_sem]) <;> omega))) | fail)) : M.Var _ (w1.heap.size) #[.int .i64 0, .int .i64 0]) _ _) (by intro u hu; all_goals (first | rw [M.usBx_block hu] | rw [M.usV_block hu] | rw [M.usI_block hu] | rw [M.usHt_block hu] | rw [M.usBd_block hu] | rw [M.usB_block hu] | rw [M.cell_block1 hu] | (exfalso; simp at hu; done)); all_goals ((try simp [go_sem]) <;> omega))) (by intro u hu; all_goals (first | rw [M.usBx_block hu] | rw [M.usV_block hu] | rw [M.usI_block hu] | rw [M.usHt_block hu] | rw [M.usBd_block hu] | rw [M.usB_block hu] | rw [M.cell_block1 hu] | (exfalso; simp at hu; done)); all_goals ((try simp [go_sem]) <;> omega)))) (M.sets_size _ _) hb
      have V2_n : M.Var w2 (w1.heap.size + 1) #[.int .i64 n] := M.Var.mono' (u := M.sets _ (usV (w1.heap.size) (.ok (x, y)) ++ usI (w1.heap.size + 1) (.ok n) ++ usI (w1.heap.size + 1 + 1) (.ok l))) (by (try simp only [M.sets_append]); exact (M.var_sets_far (usI (w1.heap.size + 1 + 1) (.ok l)) (M.var_setI (M.var_sets_far (usV (w1.heap.size) (.ok (x, y))) (by (repeat (first | (with_reducible assumption) | (with_reducible refine M.var_alloc' _ _ _ ?_; first | rfl | (simp [go_sem]; done)) | (with_reducible refine M.Var.alloc ?_ _) | (with_reducible refine M.Var.drewN ?_ _) | (with_reducible refine M.Var.drew ?_) | (with_reducible refine M.Var.far ?_ _ _ ?hFar; case hFar => (first | omega | ((try simp [go_sem]) <;> omega))) | fail)) : M.Var _ (w1.heap.size + 1) #[.int .i64 0]) (by intro u hu; all_goals (first | rw [M.usBx_block hu] | rw [M.usV_block hu] | rw [M.usI_block hu] | rw [M.usHt_block hu] | rw [M.usBd_block hu] | rw [M.usB_block hu] | rw [M.cell_block1 hu] | (exfalso; simp at hu; done)); all_goals ((try simp [go_sem]) <;> omega))) _) (by intro u hu; all_goals (first | rw [M.usBx_block hu] | rw [M.usV_block hu] | rw [M.usI_block hu] | rw [M.usHt_block hu] | rw [M.usBd_block hu] | rw [M.usB_block hu] | rw [M.cell_block1 hu] | (exfalso; simp at hu; done)); all_goals ((try simp [go_sem]) <;> omega)))) (M.sets_size _ _) hb
      have V2_l : M.Var w2 (w1.heap.size + 1 + 1) #[.int .i64 l] := M.Var.mono' (u := M.sets _ (usV (w1.heap.size) (.ok (x, y)) ++ usI (w1.heap.size + 1) (.ok n) ++ usI (w1.heap.size + 1 + 1) (.ok l))) (by (try simp only [M.sets_append]); exact (M.var_setI (M.var_sets_far (usI (w1.heap.size + 1) (.ok n)) (M.var_sets_far (usV (w1.heap.size) (.ok (x, y))) (by (repeat (first | (with_reducible assumption) | (with_reducible refine M.var_alloc' _ _ _ ?_; first | rfl | (simp [go_sem]; done)) | (with_reducible refine M.Var.alloc ?_ _) | (with_reducible refine M.Var.drewN ?_ _) | (with_reducible refine M.Var.drew ?_) | (with_reducible refine M.Var.far ?_ _ _ ?hFar; case hFar => (first | omega | ((try simp [go_sem]) <;> omega))) | fail)) : M.Var _ (w1.heap.size + 1 + 1) #[.int .i64 0]) (by intro u hu; all_goals (first | rw [M.usBx_block hu] | rw [M.usV_block hu] | rw [M.usI_block hu] | rw [M.usHt_block hu] | rw [M.usBd_block hu] | rw [M.usB_block hu] | rw [M.cell_block1 hu] | (exfalso; simp at hu; done)); all_goals ((try simp [go_sem]) <;> omega))) (by intro u hu; all_goals (first | rw [M.usBx_block hu] | rw [M.usV_block hu] | rw [M.usI_block hu] | rw [M.usHt_block hu] | rw [M.usBd_block hu] | rw [M.usB_block hu] | rw [M.cell_block1 hu] | (exfalso; simp at hu; done)); all_goals ((try simp [go_sem]) <;> omega))) _)) (M.sets_size _ _) hb
      have q2_a_0 := V2_a.c 0 _ rfl
      have q2_a_1 := V2_a.c 1 _ rfl
      have f2_a := V2_a.2.2; have L2_a := V2_a.lt; have N2_a := Nat.ne_of_gt L2_a; have M2_a := Nat.ne_of_lt L2_a
      have HV2_a := Lib.hid V2_a
      have q2_u_0 := V2_u.c 0 _ rfl
      have q2_u_1 := V2_u.c 1 _ rfl
      have f2_u := V2_u.2.2; have L2_u := V2_u.lt; have N2_u := Nat.ne_of_gt L2_u; have M2_u := Nat.ne_of_lt L2_u
      have HV2_u := Lib.hid V2_u
      have q2_n_0 := V2_n.c 0 _ rfl
      have f2_n := V2_n.2.2; have L2_n := V2_n.lt; have N2_n := Nat.ne_of_gt L2_n; have M2_n := Nat.ne_of_lt L2_n
      have HV2_n := Lib.hid V2_n
      have q2_l_0 := V2_l.c 0 _ rfl
      have f2_l := V2_l.2.2; have L2_l := V2_l.lt; have N2_l := Nat.ne_of_gt L2_l; have M2_l := Nat.ne_of_lt L2_l
      have HV2_l := Lib.hid V2_l
      have S2 := G2.size; clear hb
      go_wp2_with fail
      refine M.wp_region_later (fun w' => M.Var w' (w1.heap.size) #[.int .i64 x, .int .i64 y] ∧ M.Var w' (w1.heap.size + 1) #[.int .i64 n] ∧ M.Var w' (w1.heap.size + 1 + 1) #[.int .i64 l] ∧ True) (by kernel_rfl) (by kernel_rfl) (fun w' hb => ⟨M.Var.mono (by (repeat (first | (with_reducible assumption) | (with_reducible refine M.var_alloc' _ _ _ ?_; first | rfl | (simp [go_sem]; done)) | (with_reducible refine M.Var.alloc ?_ _) | (with_reducible refine M.Var.drewN ?_ _) | (with_reducible refine M.Var.drew ?_) | (with_reducible refine M.Var.far ?_ _ _ ?hFar; case hFar => (first | omega | ((try simp [go_sem]) <;> omega))) | fail)) : M.Var _ (w1.heap.size) #[.int .i64 x, .int .i64 y]) hb, M.Var.mono (by (repeat (first | (with_reducible assumption) | (with_reducible refine M.var_alloc' _ _ _ ?_; first | rfl | (simp [go_sem]; done)) | (with_reducible refine M.Var.alloc ?_ _) | (with_reducible refine M.Var.drewN ?_ _) | (with_reducible refine M.Var.drew ?_) | (with_reducible refine M.Var.far ?_ _ _ ?hFar; case hFar => (first | omega | ((try simp [go_sem]) <;> omega))) | fail)) : M.Var _ (w1.heap.size + 1) #[.int .i64 n]) hb, M.Var.mono (by (repeat (first | (with_reducible assumption) | (with_reducible refine M.var_alloc' _ _ _ ?_; first | rfl | (simp [go_sem]; done)) | (with_reducible refine M.Var.alloc ?_ _) | (with_reducible refine M.Var.drewN ?_ _) | (with_reducible refine M.Var.drew ?_) | (with_reducible refine M.Var.far ?_ _ _ ?hFar; case hFar => (first | omega | ((try simp [go_sem]) <;> omega))) | fail)) : M.Var _ (w1.heap.size + 1 + 1) #[.int .i64 l]) hb, trivial⟩) ?_
      intro hS
      have z3_u_0 := fun p => (hS p).1.c 0 _ rfl
      have z3_u_1 := fun p => (hS p).1.c 1 _ rfl
      have z3_n_0 := fun p => (hS p).2.1.c 0 _ rfl
      have z3_l_0 := fun p => (hS p).2.2.1.c 0 _ rfl
      have HS := Lib.hid hS; clear hS
      repeat (go_big_quiet_step ((first
          | fail
        )))
      refine wpQuiet_nil ?_
      intro w3 hw'
      obtain ⟨pL, hL⟩ := hw'
      have hb := pL.h; rw [← hL] at hb; clear hL pL
      have G3 : Below w.heap.size w w3 := Below.trans (by (repeat (with_reducible refine M.Below.drewN ?_ _)); go_grown) (hb.mono (by go_size))
      have V3_a : M.Var w3 (w.heap.size) #[.int .i64 a1, .int .i64 a2] := M.Var.mono (by (repeat (first | (with_reducible assumption) | (with_reducible refine M.var_alloc' _ _ _ ?_; first | rfl | (simp [go_sem]; done)) | (with_reducible refine M.Var.alloc ?_ _) | (with_reducible refine M.Var.drewN ?_ _) | (with_reducible refine M.Var.drew ?_) | (with_reducible refine M.Var.far ?_ _ _ ?hFar; case hFar => (first | omega | ((try simp [go_sem]) <;> omega))) | fail))) hb
      have V3_u : M.Var w3 (w1.heap.size) #[.int .i64 x, .int .i64 y] := M.Var.mono (by (repeat (first | (with_reducible assumption) | (with_reducible refine M.var_alloc' _ _ _ ?_; first | rfl | (simp [go_sem]; done)) | (with_reducible refine M.Var.alloc ?_ _) | (with_reducible refine M.Var.drewN ?_ _) | (with_reducible refine M.Var.drew ?_) | (with_reducible refine M.Var.far ?_ _ _ ?hFar; case hFar => (first | omega | ((try simp [go_sem]) <;> omega))) | fail))) hb
      have V3_n : M.Var w3 (w1.heap.size + 1) #[.int .i64 n] := M.Var.mono (by (repeat (first | (with_reducible assumption) | (with_reducible refine M.var_alloc' _ _ _ ?_; first | rfl | (simp [go_sem]; done)) | (with_reducible refine M.Var.alloc ?_ _) | (with_reducible refine M.Var.drewN ?_ _) | (with_reducible refine M.Var.drew ?_) | (with_reducible refine M.Var.far ?_ _ _ ?hFar; case hFar => (first | omega | ((try simp [go_sem]) <;> omega))) | fail))) hb
      have V3_l : M.Var w3 (w1.heap.size + 1 + 1) #[.int .i64 l] := M.Var.mono (by (repeat (first | (with_reducible assumption) | (with_reducible refine M.var_alloc' _ _ _ ?_; first | rfl | (simp [go_sem]; done)) | (with_reducible refine M.Var.alloc ?_ _) | (with_reducible refine M.Var.drewN ?_ _) | (with_reducible refine M.Var.drew ?_) | (with_reducible refine M.Var.far ?_ _ _ ?hFar; case hFar => (first | omega | ((try simp [go_sem]) <;> omega))) | fail))) hb
      have q3_a_0 := V3_a.c 0 _ rfl
      have q3_a_1 := V3_a.c 1 _ rfl
      have f3_a := V3_a.2.2; have L3_a := V3_a.lt; have N3_a := Nat.ne_of_gt L3_a; have M3_a := Nat.ne_of_lt L3_a
      have HV3_a := Lib.hid V3_a
      have q3_u_0 := V3_u.c 0 _ rfl
      have q3_u_1 := V3_u.c 1 _ rfl
      have f3_u := V3_u.2.2; have L3_u := V3_u.lt; have N3_u := Nat.ne_of_gt L3_u; have M3_u := Nat.ne_of_lt L3_u
      have HV3_u := Lib.hid V3_u
      have q3_n_0 := V3_n.c 0 _ rfl
      have f3_n := V3_n.2.2; have L3_n := V3_n.lt; have N3_n := Nat.ne_of_gt L3_n; have M3_n := Nat.ne_of_lt L3_n
      have HV3_n := Lib.hid V3_n
      have q3_l_0 := V3_l.c 0 _ rfl
      have f3_l := V3_l.2.2; have L3_l := V3_l.lt; have N3_l := Nat.ne_of_gt L3_l; have M3_l := Nat.ne_of_lt L3_l
      have HV3_l := Lib.hid V3_l
      have S3 := G3.size; clear hb
      clear z3_u_0 z3_u_1 z3_n_0 z3_l_0 HS
      go_wp2_with fail
      go_ret
      exact ⟨rfl, by (repeat (with_reducible refine M.Below.drewN ?_ _)); go_grown⟩
    · skip
      go_enter Try.func21, Try.ntmps21
      go_wp2_with fail
      (with_reducible refine (c0.out _).mono ?_); rintro en w1 ⟨rfl, hb⟩
      have G1 : Below w.heap.size w w1 := Below.trans (by (repeat (with_reducible refine M.Below.drewN ?_ _)); go_grown) (hb.mono (by go_size))
      have V1_a : M.Var w1 (w.heap.size) #[.int .i64 0, .int .i64 a2] := M.Var.mono (by (repeat (first | (with_reducible assumption) | (with_reducible refine M.var_alloc' _ _ _ ?_; first | rfl | (simp [go_sem]; done)) | (with_reducible refine M.Var.alloc ?_ _) | (with_reducible refine M.Var.drewN ?_ _) | (with_reducible refine M.Var.drew ?_) | (with_reducible refine M.Var.far ?_ _ _ ?hFar; case hFar => (first | omega | ((try simp [go_sem]) <;> omega))) | fail))) hb
      have q1_a_0 := V1_a.c 0 _ rfl
      have q1_a_1 := V1_a.c 1 _ rfl
      have f1_a := V1_a.2.2; have L1_a := V1_a.lt; have N1_a := Nat.ne_of_gt L1_a; have M1_a := Nat.ne_of_lt L1_a
      have HV1_a := Lib.hid V1_a
      have S1 := G1.size; clear hb
      go_wp2_with fail
      refine (try_c 89 #[.pointer (some ⟨w.heap.size, 0, none⟩), .pointer (some ⟨w1.heap.size, 0, none⟩), .pointer (some ⟨w1.heap.size + 1, 0, none⟩), .pointer (some ⟨w1.heap.size + 1 + 1, 0, none⟩)] _ (0) (usV (w1.heap.size) (.ok (x, y)) ++ usI (w1.heap.size + 1) (.ok n) ++ usI (w1.heap.size + 1 + 1) (.ok l)) (fun _ => rfl) ?_ ?_).mono ?_
      · intro u hu; (try simp only [List.mem_append] at hu); (repeat' (obtain hu | hu := (hu : _ ∨ _))); all_goals (first | rw [M.usBx_block hu] | rw [M.usV_block hu] | rw [M.usI_block hu] | rw [M.usHt_block hu] | rw [M.usBd_block hu] | rw [M.usB_block hu] | rw [M.cell_block1 hu] | (exfalso; simp at hu; done)); all_goals ((try simp [go_sem]) <;> omega)
      · intro w1' hb; exact (cloUnits _ _ _ _ 0 a2 x y n l ha1 ha2 ix iy E1.out E2.out w1' (M.Var.mono (b := w.heap.size) (cs := #[.int .i64 0, .int .i64 a2]) (by (repeat (first | (with_reducible assumption) | (with_reducible refine M.var_alloc' _ _ _ ?_; first | rfl | (simp [go_sem]; done)) | (with_reducible refine M.Var.alloc ?_ _) | (with_reducible refine M.Var.drewN ?_ _) | (with_reducible refine M.Var.drew ?_) | (with_reducible refine M.Var.far ?_ _ _ ?hFar; case hFar => (first | omega | ((try simp [go_sem]) <;> omega))) | fail))) hb) (M.Var.mono (b := w1.heap.size) (cs := #[.int .i64 0, .int .i64 0]) (by (repeat (first | (with_reducible assumption) | (with_reducible refine M.var_alloc' _ _ _ ?_; first | rfl | (simp [go_sem]; done)) | (with_reducible refine M.Var.alloc ?_ _) | (with_reducible refine M.Var.drewN ?_ _) | (with_reducible refine M.Var.drew ?_) | (with_reducible refine M.Var.far ?_ _ _ ?hFar; case hFar => (first | omega | ((try simp [go_sem]) <;> omega))) | fail))) hb) (M.Var.mono (b := w1.heap.size + 1) (cs := #[.int .i64 0]) (by (repeat (first | (with_reducible assumption) | (with_reducible refine M.var_alloc' _ _ _ ?_; first | rfl | (simp [go_sem]; done)) | (with_reducible refine M.Var.alloc ?_ _) | (with_reducible refine M.Var.drewN ?_ _) | (with_reducible refine M.Var.drew ?_) | (with_reducible refine M.Var.far ?_ _ _ ?hFar; case hFar => (first | omega | ((try simp [go_sem]) <;> omega))) | fail))) hb) (M.Var.mono (b := w1.heap.size + 1 + 1) (cs := #[.int .i64 0]) (by (repeat (first | (with_reducible assumption) | (with_reducible refine M.var_alloc' _ _ _ ?_; first | rfl | (simp [go_sem]; done)) | (with_reducible refine M.Var.alloc ?_ _) | (with_reducible refine M.Var.drewN ?_ _) | (with_reducible refine M.Var.drew ?_) | (with_reducible refine M.Var.far ?_ _ _ ?hFar; case hFar => (first | omega | ((try simp [go_sem]) <;> omega))) | fail))) hb) (by omega) (by omega) (by omega) (by omega) (by omega) (by omega) (by omega) (by omega) (by omega)).mono fun e w' h => h
      rintro en w2 ⟨rfl, hb⟩
      have G2 : Below w.heap.size w w2 := Below.trans (M.below_sets_own (usV (w1.heap.size) (.ok (x, y)) ++ usI (w1.heap.size + 1) (.ok n) ++ usI (w1.heap.size + 1 + 1) (.ok l)) (by (repeat (with_reducible refine M.Below.drewN ?_ _)); go_grown) (by intro u hu; (try simp only [List.mem_append] at hu); (repeat' (obtain hu | hu := (hu : _ ∨ _))); all_goals (first | rw [M.usBx_block hu] | rw [M.usV_block hu] | rw [M.usI_block hu] | rw [M.usHt_block hu] | rw [M.usBd_block hu] | rw [M.usB_block hu] | rw [M.cell_block1 hu] | (exfalso; simp at hu; done)); all_goals ((try simp [go_sem]) <;> omega))) (hb.mono (by go_size))
      have V2_a : M.Var w2 (w.heap.size) #[.int .i64 0, .int .i64 a2] := M.Var.mono' (u := M.sets _ (usV (w1.heap.size) (.ok (x, y)) ++ usI (w1.heap.size + 1) (.ok n) ++ usI (w1.heap.size + 1 + 1) (.ok l))) (by (try simp only [M.sets_append]); exact (M.var_sets_far (usI (w1.heap.size + 1 + 1) (.ok l)) (M.var_sets_far (usI (w1.heap.size + 1) (.ok n)) (M.var_sets_far (usV (w1.heap.size) (.ok (x, y))) (by (repeat (first | (with_reducible assumption) | (with_reducible refine M.var_alloc' _ _ _ ?_; first | rfl | (simp [go_sem]; done)) | (with_reducible refine M.Var.alloc ?_ _) | (with_reducible refine M.Var.drewN ?_ _) | (with_reducible refine M.Var.drew ?_) | (with_reducible refine M.Var.far ?_ _ _ ?hFar; case hFar => (first | omega | ((try simp [go_sem]) <;> omega))) | fail)) : M.Var _ (w.heap.size) #[.int .i64 0, .int .i64 a2]) (by intro u hu; all_goals (first | rw [M.usBx_block hu] | rw [M.usV_block hu] | rw [M.usI_block hu] | rw [M.usHt_block hu] | rw [M.usBd_block hu] | rw [M.usB_block hu] | rw [M.cell_block1 hu] | (exfalso; simp at hu; done)); all_goals ((try simp [go_sem]) <;> omega))) (by intro u hu; all_goals (first | rw [M.usBx_block hu] | rw [M.usV_block hu] | rw [M.usI_block hu] | rw [M.usHt_block hu] | rw [M.usBd_block hu] | rw [M.usB_block hu] | rw [M.cell_block1 hu] | (exfalso; simp at hu; done)); all_goals ((try simp [go_sem]) <;> omega))) (by intro u hu; all_goals (first | rw [M.usBx_block hu] | rw [M.usV_block hu] | rw [M.usI_block hu] | rw [M.usHt_block hu] | rw [M.usBd_block hu] | rw [M.usB_block hu] | rw [M.cell_block1 hu] | (exfalso; simp at hu; done)); all_goals ((try simp [go_sem]) <;> omega)))) (M.sets_size _ _) hb
      have V2_u : M.Var w2 (w1.heap.size) #[.int .i64 x, .int .i64 y] := M.Var.mono' (u := M.sets _ (usV (w1.heap.size) (.ok (x, y)) ++ usI (w1.heap.size + 1) (.ok n) ++ usI (w1.heap.size + 1 + 1) (.ok l))) (by (try simp only [M.sets_append]); exact (M.var_sets_far (usI (w1.heap.size + 1 + 1) (.ok l)) (M.var_sets_far (usI (w1.heap.size + 1) (.ok n)) (M.var_setV (by (repeat (first | (with_reducible assumption) | (with_reducible refine M.var_alloc' _ _ _ ?_; first | rfl | (simp [go_sem]; done)) | (with_reducible refine M.Var.alloc ?_ _) | (with_reducible refine M.Var.drewN ?_ _) | (with_reducible refine M.Var.drew ?_) | (with_reducible refine M.Var.far ?_ _ _ ?hFar; case hFar => (first | omega | ((try simp [go_sem]) <;> omega))) | fail)) : M.Var _ (w1.heap.size) #[.int .i64 0, .int .i64 0]) _ _) (by intro u hu; all_goals (first | rw [M.usBx_block hu] | rw [M.usV_block hu] | rw [M.usI_block hu] | rw [M.usHt_block hu] | rw [M.usBd_block hu] | rw [M.usB_block hu] | rw [M.cell_block1 hu] | (exfalso; simp at hu; done)); all_goals ((try simp [go_sem]) <;> omega))) (by intro u hu; all_goals (first | rw [M.usBx_block hu] | rw [M.usV_block hu] | rw [M.usI_block hu] | rw [M.usHt_block hu] | rw [M.usBd_block hu] | rw [M.usB_block hu] | rw [M.cell_block1 hu] | (exfalso; simp at hu; done)); all_goals ((try simp [go_sem]) <;> omega)))) (M.sets_size _ _) hb
      have V2_n : M.Var w2 (w1.heap.size + 1) #[.int .i64 n] := M.Var.mono' (u := M.sets _ (usV (w1.heap.size) (.ok (x, y)) ++ usI (w1.heap.size + 1) (.ok n) ++ usI (w1.heap.size + 1 + 1) (.ok l))) (by (try simp only [M.sets_append]); exact (M.var_sets_far (usI (w1.heap.size + 1 + 1) (.ok l)) (M.var_setI (M.var_sets_far (usV (w1.heap.size) (.ok (x, y))) (by (repeat (first | (with_reducible assumption) | (with_reducible refine M.var_alloc' _ _ _ ?_; first | rfl | (simp [go_sem]; done)) | (with_reducible refine M.Var.alloc ?_ _) | (with_reducible refine M.Var.drewN ?_ _) | (with_reducible refine M.Var.drew ?_) | (with_reducible refine M.Var.far ?_ _ _ ?hFar; case hFar => (first | omega | ((try simp [go_sem]) <;> omega))) | fail)) : M.Var _ (w1.heap.size + 1) #[.int .i64 0]) (by intro u hu; all_goals (first | rw [M.usBx_block hu] | rw [M.usV_block hu] | rw [M.usI_block hu] | rw [M.usHt_block hu] | rw [M.usBd_block hu] | rw [M.usB_block hu] | rw [M.cell_block1 hu] | (exfalso; simp at hu; done)); all_goals ((try simp [go_sem]) <;> omega))) _) (by intro u hu; all_goals (first | rw [M.usBx_block hu] | rw [M.usV_block hu] | rw [M.usI_block hu] | rw [M.usHt_block hu] | rw [M.usBd_block hu] | rw [M.usB_block hu] | rw [M.cell_block1 hu] | (exfalso; simp at hu; done)); all_goals ((try simp [go_sem]) <;> omega)))) (M.sets_size _ _) hb
      have V2_l : M.Var w2 (w1.heap.size + 1 + 1) #[.int .i64 l] := M.Var.mono' (u := M.sets _ (usV (w1.heap.size) (.ok (x, y)) ++ usI (w1.heap.size + 1) (.ok n) ++ usI (w1.heap.size + 1 + 1) (.ok l))) (by (try simp only [M.sets_append]); exact (M.var_setI (M.var_sets_far (usI (w1.heap.size + 1) (.ok n)) (M.var_sets_far (usV (w1.heap.size) (.ok (x, y))) (by (repeat (first | (with_reducible assumption) | (with_reducible refine M.var_alloc' _ _ _ ?_; first | rfl | (simp [go_sem]; done)) | (with_reducible refine M.Var.alloc ?_ _) | (with_reducible refine M.Var.drewN ?_ _) | (with_reducible refine M.Var.drew ?_) | (with_reducible refine M.Var.far ?_ _ _ ?hFar; case hFar => (first | omega | ((try simp [go_sem]) <;> omega))) | fail)) : M.Var _ (w1.heap.size + 1 + 1) #[.int .i64 0]) (by intro u hu; all_goals (first | rw [M.usBx_block hu] | rw [M.usV_block hu] | rw [M.usI_block hu] | rw [M.usHt_block hu] | rw [M.usBd_block hu] | rw [M.usB_block hu] | rw [M.cell_block1 hu] | (exfalso; simp at hu; done)); all_goals ((try simp [go_sem]) <;> omega))) (by intro u hu; all_goals (first | rw [M.usBx_block hu] | rw [M.usV_block hu] | rw [M.usI_block hu] | rw [M.usHt_block hu] | rw [M.usBd_block hu] | rw [M.usB_block hu] | rw [M.cell_block1 hu] | (exfalso; simp at hu; done)); all_goals ((try simp [go_sem]) <;> omega))) _)) (M.sets_size _ _) hb
      have q2_a_0 := V2_a.c 0 _ rfl
      have q2_a_1 := V2_a.c 1 _ rfl
      have f2_a := V2_a.2.2; have L2_a := V2_a.lt; have N2_a := Nat.ne_of_gt L2_a; have M2_a := Nat.ne_of_lt L2_a
      have HV2_a := Lib.hid V2_a
      have q2_u_0 := V2_u.c 0 _ rfl
      have q2_u_1 := V2_u.c 1 _ rfl
      have f2_u := V2_u.2.2; have L2_u := V2_u.lt; have N2_u := Nat.ne_of_gt L2_u; have M2_u := Nat.ne_of_lt L2_u
      have HV2_u := Lib.hid V2_u
      have q2_n_0 := V2_n.c 0 _ rfl
      have f2_n := V2_n.2.2; have L2_n := V2_n.lt; have N2_n := Nat.ne_of_gt L2_n; have M2_n := Nat.ne_of_lt L2_n
      have HV2_n := Lib.hid V2_n
      have q2_l_0 := V2_l.c 0 _ rfl
      have f2_l := V2_l.2.2; have L2_l := V2_l.lt; have N2_l := Nat.ne_of_gt L2_l; have M2_l := Nat.ne_of_lt L2_l
      have HV2_l := Lib.hid V2_l
      have S2 := G2.size; clear hb
      go_wp2_with fail
      refine M.wp_region_later (fun w' => M.Var w' (w1.heap.size) #[.int .i64 x, .int .i64 y] ∧ M.Var w' (w1.heap.size + 1) #[.int .i64 n] ∧ M.Var w' (w1.heap.size + 1 + 1) #[.int .i64 l] ∧ True) (by kernel_rfl) (by kernel_rfl) (fun w' hb => ⟨M.Var.mono (by (repeat (first | (with_reducible assumption) | (with_reducible refine M.var_alloc' _ _ _ ?_; first | rfl | (simp [go_sem]; done)) | (with_reducible refine M.Var.alloc ?_ _) | (with_reducible refine M.Var.drewN ?_ _) | (with_reducible refine M.Var.drew ?_) | (with_reducible refine M.Var.far ?_ _ _ ?hFar; case hFar => (first | omega | ((try simp [go_sem]) <;> omega))) | fail)) : M.Var _ (w1.heap.size) #[.int .i64 x, .int .i64 y]) hb, M.Var.mono (by (repeat (first | (with_reducible assumption) | (with_reducible refine M.var_alloc' _ _ _ ?_; first | rfl | (simp [go_sem]; done)) | (with_reducible refine M.Var.alloc ?_ _) | (with_reducible refine M.Var.drewN ?_ _) | (with_reducible refine M.Var.drew ?_) | (with_reducible refine M.Var.far ?_ _ _ ?hFar; case hFar => (first | omega | ((try simp [go_sem]) <;> omega))) | fail)) : M.Var _ (w1.heap.size + 1) #[.int .i64 n]) hb, M.Var.mono (by (repeat (first | (with_reducible assumption) | (with_reducible refine M.var_alloc' _ _ _ ?_; first | rfl | (simp [go_sem]; done)) | (with_reducible refine M.Var.alloc ?_ _) | (with_reducible refine M.Var.drewN ?_ _) | (with_reducible refine M.Var.drew ?_) | (with_reducible refine M.Var.far ?_ _ _ ?hFar; case hFar => (first | omega | ((try simp [go_sem]) <;> omega))) | fail)) : M.Var _ (w1.heap.size + 1 + 1) #[.int .i64 l]) hb, trivial⟩) ?_
      intro hS
      have z3_u_0 := fun p => (hS p).1.c 0 _ rfl
      have z3_u_1 := fun p => (hS p).1.c 1 _ rfl
      have z3_n_0 := fun p => (hS p).2.1.c 0 _ rfl
      have z3_l_0 := fun p => (hS p).2.2.1.c 0 _ rfl
      have HS := Lib.hid hS; clear hS
      repeat (go_big_quiet_step ((first
          | fail
        )))
      refine wpQuiet_nil ?_
      intro w3 hw'
      obtain ⟨pL, hL⟩ := hw'
      have hb := pL.h; rw [← hL] at hb; clear hL pL
      have G3 : Below w.heap.size w w3 := Below.trans (by (repeat (with_reducible refine M.Below.drewN ?_ _)); go_grown) (hb.mono (by go_size))
      have V3_a : M.Var w3 (w.heap.size) #[.int .i64 0, .int .i64 a2] := M.Var.mono (by (repeat (first | (with_reducible assumption) | (with_reducible refine M.var_alloc' _ _ _ ?_; first | rfl | (simp [go_sem]; done)) | (with_reducible refine M.Var.alloc ?_ _) | (with_reducible refine M.Var.drewN ?_ _) | (with_reducible refine M.Var.drew ?_) | (with_reducible refine M.Var.far ?_ _ _ ?hFar; case hFar => (first | omega | ((try simp [go_sem]) <;> omega))) | fail))) hb
      have V3_u : M.Var w3 (w1.heap.size) #[.int .i64 x, .int .i64 y] := M.Var.mono (by (repeat (first | (with_reducible assumption) | (with_reducible refine M.var_alloc' _ _ _ ?_; first | rfl | (simp [go_sem]; done)) | (with_reducible refine M.Var.alloc ?_ _) | (with_reducible refine M.Var.drewN ?_ _) | (with_reducible refine M.Var.drew ?_) | (with_reducible refine M.Var.far ?_ _ _ ?hFar; case hFar => (first | omega | ((try simp [go_sem]) <;> omega))) | fail))) hb
      have V3_n : M.Var w3 (w1.heap.size + 1) #[.int .i64 n] := M.Var.mono (by (repeat (first | (with_reducible assumption) | (with_reducible refine M.var_alloc' _ _ _ ?_; first | rfl | (simp [go_sem]; done)) | (with_reducible refine M.Var.alloc ?_ _) | (with_reducible refine M.Var.drewN ?_ _) | (with_reducible refine M.Var.drew ?_) | (with_reducible refine M.Var.far ?_ _ _ ?hFar; case hFar => (first | omega | ((try simp [go_sem]) <;> omega))) | fail))) hb
      have V3_l : M.Var w3 (w1.heap.size + 1 + 1) #[.int .i64 l] := M.Var.mono (by (repeat (first | (with_reducible assumption) | (with_reducible refine M.var_alloc' _ _ _ ?_; first | rfl | (simp [go_sem]; done)) | (with_reducible refine M.Var.alloc ?_ _) | (with_reducible refine M.Var.drewN ?_ _) | (with_reducible refine M.Var.drew ?_) | (with_reducible refine M.Var.far ?_ _ _ ?hFar; case hFar => (first | omega | ((try simp [go_sem]) <;> omega))) | fail))) hb
      have q3_a_0 := V3_a.c 0 _ rfl
      have q3_a_1 := V3_a.c 1 _ rfl
      have f3_a := V3_a.2.2; have L3_a := V3_a.lt; have N3_a := Nat.ne_of_gt L3_a; have M3_a := Nat.ne_of_lt L3_a
      have HV3_a := Lib.hid V3_a
      have q3_u_0 := V3_u.c 0 _ rfl
      have q3_u_1 := V3_u.c 1 _ rfl
      have f3_u := V3_u.2.2; have L3_u := V3_u.lt; have N3_u := Nat.ne_of_gt L3_u; have M3_u := Nat.ne_of_lt L3_u
      have HV3_u := Lib.hid V3_u
      have q3_n_0 := V3_n.c 0 _ rfl
      have f3_n := V3_n.2.2; have L3_n := V3_n.lt; have N3_n := Nat.ne_of_gt L3_n; have M3_n := Nat.ne_of_lt L3_n
      have HV3_n := Lib.hid V3_n
      have q3_l_0 := V3_l.c 0 _ rfl
      have f3_l := V3_l.2.2; have L3_l := V3_l.lt; have N3_l := Nat.ne_of_gt L3_l; have M3_l := Nat.ne_of_lt L3_l
      have HV3_l := Lib.hid V3_l
      have S3 := G3.size; clear hb
      clear z3_u_0 z3_u_1 z3_n_0 z3_l_0 HS
      go_wp2_with fail
      go_ret
      exact ⟨rfl, by (repeat (with_reducible refine M.Below.drewN ?_ _)); go_grown⟩

theorem lifted (os : Os) (started : os.Started) (H : Type) (enc : TypeId × Value → H) :
    ReturnsInHanded {} Try.checked os 21 .any (Rows.vecUnitsSpec.pre6 enc Try.prog Try.f21 Rows.vecUnitsRow.domain false) (Rows.vecUnitsSpec.post enc Try.prog Try.f21 false true false false) := by
  refine returnsInHanded_of_change (C := Try.checked) own started (by kernel_rfl) Try.func21
    (ChangeSpec.witness6 (enc := enc) (C := Try.checked) false ⟨#[], #[.agg #[.int .i64 0, .int .i64 0]], []⟩ 8 (by kernel_rfl) (by kernel_rfl) (by kernel_rfl) (by kernel_rfl)) ?_
  intro W base args ds gs before hval0 hW hcnd _
  have hval : ∀ (j : Nat) t v, Try.f21.params[j]? = some t → args[j]? = some v → Value.okWide Try.prog W .any base t v := hval0
  have hW' := hW
  obtain ⟨p, q, hA0, hV, rfl, hfz, hnd⟩ := hW
  have hA : DataW.TrodAll enc Try.prog W 0 (fun _ => true) true Try.f21.params.toList args.toList ds p := hA0
  rw [Try.params21] at hA hval
  obtain ⟨v0, vs0, d0, ds0, p0, q0, hargs, rfl, rfl, h0, r0⟩ := trodAll_cons hA
  obtain ⟨rfl, rfl, rfl⟩ := trodAll_nil r0
  obtain rfl : args = #[v0] := by cases args; simp_all
  obtain ⟨rfl, rfl⟩ := trodVars_none hV
  obtain ⟨a1, a2, rfl, rfl, rfl, wa1, wa2⟩ := open_vec (hval 0 24 v0 rfl rfl) h0
  clear hA0 hval0
  simp only [List.append_nil] at hW'
  refine (walk a1 a2 (i64_wf wa1) (i64_wf wa2) W).mono fun e W' ⟨he, hg⟩ => ?_
  subst he
  exact ⟨_, rfl, post_below (pa := []) (pv := []) hW' (fun _ _ _ => (trodAll_cons_mk (shut_bool Try.underlying4 _) trodAll_mk0)) (fun sp _ => (trodAll_cons_mk (shut_vec wa1 wa2) trodAll_mk0)) (fun _ _ => rfl) rfl
    hg (ok_one (by kernel_rfl) rfl (okWide_bool_mk Try.underlying4 _))⟩

theorem closed : joinedFacts Try.prog 21 Try.f21 Rows.vecUnitsSpec Rows.vecUnitsRow = true := by
  unfold joinedFacts
  rw [fact_laid, fact_maps, fact_keys, fact_heard, fact_stops, fact_knobs, fact_enter, fact_lifts, fact_make]
  kernel_rfl

theorem over : Rows.vecUnitsRow.holds Try.pinned (OpenSpec.ofChange Rows.vecUnitsSpec) :=
  OpenClaim.holds_of_wide 21 Try.f21 rfl rfl rfl rfl rfl rfl rfl ⟨rfl, rfl, rfl, rfl, rfl⟩ rfl rfl rfl rfl rfl (by kernel_rfl) Try.func21 closed
    (of_decide_eq_true (by kernel_rfl)) (by unfold Func.isWrapper; first | (rw [if_pos (by decide +kernel)]; kernel_rfl) | (rw [if_neg (by decide +kernel)]; exact ⟨rfl, rfl⟩))
    (fun os started H enc _ => lifted os started H enc)

/-- The statement. -/
theorem proved : Rows.VecUnitsSaid :=
  over
#print axioms proved
end Go.Proofs.Ytaagpkacningdaa.vecUnits
