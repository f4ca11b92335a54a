/- For every place and number VecShares returns true: shared by n, n times that is the place but for less than n; shared by -n the signs turn. -/
import Derived.Test.YtaagpkacningdaaRows
import Derived.WalkKit
import Derived.ProofKit
import Derived.OpenShut
import Derived.Test.YtaagpkacningdaaFacts
import Derived.Test.YtaagpkacningdaaArgs
import Derived.Test.YtaagpkacningdaaCloV
import Derived.Test.YtaagpkacningdaaVecAlive
import Derived.Test.YtaagpkacningdaaTouchMath
import Derived.Deep.RegionHeld2
import Derived.Deep.DrawnRows
namespace Go.Proofs.Ytaagpkacningdaa.vecShares
open Go.ChangeShapes Go.WideShapes Go.ChangeAt Go.RowKit M
set_option maxRecDepth 100000
set_option maxHeartbeats 8000000
set_option linter.unusedVariables false
set_option linter.unusedSimpArgs false
attribute [local go_sem ↓] Go.wp_at_zero Go.wp_at_succ
theorem own : ownKnob Try.prog.godebug = none := by kernel_rfl
theorem share_prod {a n : Int} (hn : 1 ≤ n) : (0 ≤ a → 0 ≤ a.tdiv n ∧ 0 ≤ a.tdiv n * n ∧ a.tdiv n * n ≤ a ∧ a.tdiv n ≤ a) ∧ (a ≤ 0 → a.tdiv n ≤ 0 ∧ a.tdiv n * n ≤ 0 ∧ a ≤ a.tdiv n * n ∧ a ≤ a.tdiv n) := by
  have pos : ∀ a : Int, 0 ≤ a → 0 ≤ a.tdiv n ∧ 0 ≤ a.tdiv n * n ∧ a.tdiv n * n ≤ a ∧ a.tdiv n ≤ a := by
    intro a ha
    have h1 := Int.tdiv_nonneg ha (show 0 ≤ n by omega)
    have h2 := Int.mul_nonneg h1 (show 0 ≤ n by omega)
    have h3 := Int.mul_tdiv_add_tmod a n
    have h4 := Int.tmod_nonneg n ha
    rw [Int.mul_comm] at h3
    have h5 : a.tdiv n * 1 ≤ a.tdiv n * n := Int.mul_le_mul_of_nonneg_left hn h1
    omega
  refine ⟨pos a, fun h => ?_⟩
  have k := pos (-a) (by omega)
  rw [Int.neg_tdiv, Int.neg_mul] at k
  omega
/-- The walk: the Go text returns true; of what was there nothing turns. -/
theorem walk (a1 a2 : Int) (ha1 : I64 a1) (ha2 : I64 a2) (n : Int) (hn : I64 n) (w : World) :
    Calls Try.prog 23 #[.agg #[.int .i64 a1, .int .i64 a2], .int .i64 n] w fun e w' => e = .returned (.bool true) ∧ Bw w w' := by
  have c0 := Lib.hid alive6_c
  by_cases hg : 1 ≤ n ∧ n ≤ 1000 ∧ a1 ≠ -9223372036854775808 ∧ a2 ≠ -9223372036854775808
  rotate_left
  · have h0 : (n < 1) ∨ (¬ n < 1 ∧ 1000 < n) ∨ (¬ n < 1 ∧ ¬ 1000 < n ∧ (a1 == -9223372036854775808) = true) ∨ (¬ n < 1 ∧ ¬ 1000 < n ∧ (a1 == -9223372036854775808) = false ∧ (a2 == -9223372036854775808) = true) := by
      simp only [beq_iff_eq, beq_eq_false_iff_ne]; omega
    clear hg
    rcases h0 with h1 | ⟨h1, h2⟩ | ⟨h1, h2, h3⟩ | ⟨h1, h2, h3, h4⟩
    · skip
      go_enter Try.func23, Try.ntmps23
      go_wp2_with fail
      (with_reducible refine (c0.out _).mono ?_); rintro en w1 ⟨rfl, hb⟩
      have G1 : Below w.heap.size w w1 := Below.trans (by (repeat (with_reducible refine M.Below.drewN ?_ _)); go_grown) (hb.mono (by go_size))
      have S1 := G1.size; clear hb
      go_wp2_with fail
      go_ret
      exact ⟨rfl, by (repeat (with_reducible refine M.Below.drewN ?_ _)); go_grown⟩
    · skip
      go_enter Try.func23, Try.ntmps23
      go_wp2_with fail
      (with_reducible refine (c0.out _).mono ?_); rintro en w1 ⟨rfl, hb⟩
      have G1 : Below w.heap.size w w1 := Below.trans (by (repeat (with_reducible refine M.Below.drewN ?_ _)); go_grown) (hb.mono (by go_size))
      have S1 := G1.size; clear hb
      go_wp2_with fail
      go_ret
      exact ⟨rfl, by (repeat (with_reducible refine M.Below.drewN ?_ _)); go_grown⟩
    · skip
      go_enter Try.func23, Try.ntmps23
      go_wp2_with fail
      (with_reducible refine (c0.out _).mono ?_); rintro en w1 ⟨rfl, hb⟩
      have G1 : Below w.heap.size w w1 := Below.trans (by (repeat (with_reducible refine M.Below.drewN ?_ _)); go_grown) (hb.mono (by go_size))
      have S1 := G1.size; clear hb
      go_wp2_with fail
      go_ret
      exact ⟨rfl, by (repeat (with_reducible refine M.Below.drewN ?_ _)); go_grown⟩
    · skip
      go_enter Try.func23, Try.ntmps23
      go_wp2_with fail
      (with_reducible refine (c0.out _).mono ?_); rintro en w1 ⟨rfl, hb⟩
      have G1 : Below w.heap.size w w1 := Below.trans (by (repeat (with_reducible refine M.Below.drewN ?_ _)); go_grown) (hb.mono (by go_size))
      have S1 := G1.size; clear hb
      go_wp2_with fail
      go_ret
      exact ⟨rfl, by (repeat (with_reducible refine M.Below.drewN ?_ _)); go_grown⟩
  obtain ⟨g1, g2, g3, g4⟩ := hg
  have h1 : ¬ n < 1 := by omega
  have h2 : ¬ 1000 < n := by omega
  have b1 := beq_eq_false_iff_ne.2 g3
  have b2 := beq_eq_false_iff_ne.2 g4
  have hn1 : -9223372036854775807 ≤ a1 := by unfold I64 at ha1; omega
  have hn2 : -9223372036854775807 ≤ a2 := by unfold I64 at ha2; omega
  obtain ⟨e1, e2⟩ := share_by (a := (a1, a2)) hn1 hn2 g1
  have t1 := tdiv_rest (a := a1) g1
  have t2 := tdiv_rest (a := a2) g1
  have s1 := share_prod (a := a1) g1
  have s2 := share_prod (a := a2) g1
  dsimp only at e1 e2
  generalize a1.tdiv n = x at *
  generalize a2.tdiv n = y at *
  have E1 := Lib.hid e1; have E2 := Lib.hid e2
  clear e1 e2 g3 g4
  have x1 : -9223372036854775807 ≤ x ∧ x ≤ 9223372036854775807 ∧ -9223372036854775807 ≤ x * n ∧ x * n ≤ 9223372036854775807 := by unfold I64 at ha1; omega
  have y1 : -9223372036854775807 ≤ y ∧ y ≤ 9223372036854775807 ∧ -9223372036854775807 ≤ y * n ∧ y * n ≤ 9223372036854775807 := by unfold I64 at ha2; omega
  have m1 : max (a1 - x * n) (-(a1 - x * n)) < n := by omega
  have m2 : max (a2 - y * n) (-(a2 - y * n)) < n := by omega
  clear s1 s2
  go_enter Try.func23, Try.ntmps23
  go_wp2_with fail
  (with_reducible refine (c0.out _).mono ?_); rintro en w1 ⟨rfl, hb⟩
  have G1 : Below w.heap.size w w1 := Below.trans (by (repeat (with_reducible refine M.Below.drewN ?_ _)); go_grown) (hb.mono (by go_size))
  have V1_a : M.Var w1 (w.heap.size) #[.int .i64 a1, .int .i64 a2] := M.Var.mono (by (repeat (first | (with_reducible assumption) | (refine M.var_alloc' _ _ _ ?_; first | rfl | (simp [go_sem]; done)) | (with_reducible refine M.Var.alloc ?_ _) | (with_reducible refine M.Var.drewN ?_ _) | (with_reducible refine M.Var.drew ?_) | (with_reducible refine M.Var.far ?_ _ _ ?hFar; case hFar => (first | omega | ((try simp [go_sem]) <;> omega))) | fail))) hb
  have V1_n : M.Var w1 (w.heap.size + 1) #[.int .i64 n] := M.Var.mono (by (repeat (first | (with_reducible assumption) | (refine M.var_alloc' _ _ _ ?_; first | rfl | (simp [go_sem]; done)) | (with_reducible refine M.Var.alloc ?_ _) | (with_reducible refine M.Var.drewN ?_ _) | (with_reducible refine M.Var.drew ?_) | (with_reducible refine M.Var.far ?_ _ _ ?hFar; case hFar => (first | omega | ((try simp [go_sem]) <;> omega))) | fail))) hb
  have q1_a_0 := V1_a.c 0 _ rfl
  have q1_a_1 := V1_a.c 1 _ rfl
  have f1_a := V1_a.2.2; have L1_a := V1_a.lt; have N1_a := Nat.ne_of_gt L1_a; have M1_a := Nat.ne_of_lt L1_a
  have HV1_a := Lib.hid V1_a
  have q1_n_0 := V1_n.c 0 _ rfl
  have f1_n := V1_n.2.2; have L1_n := V1_n.lt; have N1_n := Nat.ne_of_gt L1_n; have M1_n := Nat.ne_of_lt L1_n
  have HV1_n := Lib.hid V1_n
  have S1 := G1.size; clear hb
  go_wp2_with fail
  refine (try_c 94 #[.pointer (some ⟨w.heap.size, 0, none⟩), .pointer (some ⟨w.heap.size + 1, 0, none⟩), .pointer (some ⟨w1.heap.size, 0, none⟩), .pointer (some ⟨w1.heap.size + 1, 0, none⟩)] _ (0) (usV (w1.heap.size) (.ok (x, y)) ++ usV (w1.heap.size + 1) (.ok (-x, -y))) (fun _ => rfl) ?_ ?_).mono ?_
  · intro u hu; (try simp only [List.mem_append] at hu); (repeat' (obtain hu | hu := (hu : _ ∨ _))); all_goals (first | rw [M.usBx_block hu] | rw [M.usV_block hu] | rw [M.usI_block hu] | rw [M.usHt_block hu] | rw [M.usBd_block hu] | rw [M.usB_block hu] | rw [M.cell_block1 hu] | (exfalso; simp at hu; done)); all_goals ((try simp [go_sem]) <;> omega)
  · intro w1' hb; exact (cloShares _ _ _ _ a1 a2 n x y ha1 ha2 g1 g2 E1.out E2.out w1' (M.Var.mono (b := w.heap.size) (cs := #[.int .i64 a1, .int .i64 a2]) (by (repeat (first | (with_reducible assumption) | (refine M.var_alloc' _ _ _ ?_; first | rfl | (simp [go_sem]; done)) | (with_reducible refine M.Var.alloc ?_ _) | (with_reducible refine M.Var.drewN ?_ _) | (with_reducible refine M.Var.drew ?_) | (with_reducible refine M.Var.far ?_ _ _ ?hFar; case hFar => (first | omega | ((try simp [go_sem]) <;> omega))) | fail))) hb) (M.Var.mono (b := w.heap.size + 1) (cs := #[.int .i64 n]) (by (repeat (first | (with_reducible assumption) | (refine M.var_alloc' _ _ _ ?_; first | rfl | (simp [go_sem]; done)) | (with_reducible refine M.Var.alloc ?_ _) | (with_reducible refine M.Var.drewN ?_ _) | (with_reducible refine M.Var.drew ?_) | (with_reducible refine M.Var.far ?_ _ _ ?hFar; case hFar => (first | omega | ((try simp [go_sem]) <;> omega))) | fail))) hb) (M.Var.mono (b := w1.heap.size) (cs := #[.int .i64 0, .int .i64 0]) (by (repeat (first | (with_reducible assumption) | (refine M.var_alloc' _ _ _ ?_; first | rfl | (simp [go_sem]; done)) | (with_reducible refine M.Var.alloc ?_ _) | (with_reducible refine M.Var.drewN ?_ _) | (with_reducible refine M.Var.drew ?_) | (with_reducible refine M.Var.far ?_ _ _ ?hFar; case hFar => (first | omega | ((try simp [go_sem]) <;> omega))) | fail))) hb) (M.Var.mono (b := w1.heap.size + 1) (cs := #[.int .i64 0, .int .i64 0]) (by (repeat (first | (with_reducible assumption) | (refine M.var_alloc' _ _ _ ?_; first | rfl | (simp [go_sem]; done)) | (with_reducible refine M.Var.alloc ?_ _) | (with_reducible refine M.Var.drewN ?_ _) | (with_reducible refine M.Var.drew ?_) | (with_reducible refine M.Var.far ?_ _ _ ?hFar; case hFar => (first | omega | ((try simp [go_sem]) <;> omega))) | fail))) hb) (by omega) (by omega) (by omega) (by omega) (by omega) (by omega)).mono fun e w' h => h
  rintro en w2 ⟨rfl, hb⟩
  have G2 : Below w.heap.size w w2 := Below.trans (M.below_sets_own (usV (w1.heap.size) (.ok (x, y)) ++ usV (w1.heap.size + 1) (.ok (-x, -y))) (by (repeat (with_reducible refine M.Below.drewN ?_ _)); go_grown) (by intro u hu; (try simp only [List.mem_append] at hu); (repeat' (obtain hu | hu := (hu : _ ∨ _))); all_goals (first | rw [M.usBx_block hu] | rw [M.usV_block hu] | rw [M.usI_block hu] | rw [M.usHt_block hu] | rw [M.usBd_block hu] | rw [M.usB_block hu] | rw [M.cell_block1 hu] | (exfalso; simp at hu; done)); all_goals ((try simp [go_sem]) <;> omega))) (hb.mono (by go_size))
  have V2_a : M.Var w2 (w.heap.size) #[.int .i64 a1, .int .i64 a2] := M.Var.mono' (u := M.sets _ (usV (w1.heap.size) (.ok (x, y)) ++ usV (w1.heap.size + 1) (.ok (-x, -y)))) (by (try simp only [M.sets_append]); exact (M.var_sets_far (usV (w1.heap.size + 1) (.ok (-x, -y))) (M.var_sets_far (usV (w1.heap.size) (.ok (x, y))) (by (repeat (first | (with_reducible assumption) | (refine M.var_alloc' _ _ _ ?_; first | rfl | (simp [go_sem]; done)) | (with_reducible refine M.Var.alloc ?_ _) | (with_reducible refine M.Var.drewN ?_ _) | (with_reducible refine M.Var.drew ?_) | (with_reducible refine M.Var.far ?_ _ _ ?hFar; case hFar => (first | omega | ((try simp [go_sem]) <;> omega))) | fail)) : M.Var _ (w.heap.size) #[.int .i64 a1, .int .i64 a2]) (by intro u hu; all_goals (first | rw [M.usBx_block hu] | rw [M.usV_block hu] | rw [M.usI_block hu] | rw [M.usHt_block hu] | rw [M.usBd_block hu] | rw [M.usB_block hu] | rw [M.cell_block1 hu] | (exfalso; simp at hu; done)); all_goals ((try simp [go_sem]) <;> omega))) (by intro u hu; all_goals (first | rw [M.usBx_block hu] | rw [M.usV_block hu] | rw [M.usI_block hu] | rw [M.usHt_block hu] | rw [M.usBd_block hu] | rw [M.usB_block hu] | rw [M.cell_block1 hu] | (exfalso; simp at hu; done)); all_goals ((try simp [go_sem]) <;> omega)))) (M.sets_size _ _) hb
  have V2_n : M.Var w2 (w.heap.size + 1) #[.int .i64 n] := M.Var.mono' (u := M.sets _ (usV (w1.heap.size) (.ok (x, y)) ++ usV (w1.heap.size + 1) (.ok (-x, -y)))) (by (try simp only [M.sets_append]); exact (M.var_sets_far (usV (w1.heap.size + 1) (.ok (-x, -y))) (M.var_sets_far (usV (w1.heap.size) (.ok (x, y))) (by (repeat (first | (with_reducible assumption) | (refine M.var_alloc' _ _ _ ?_; first | rfl | (simp [go_sem]; done)) | (with_reducible refine M.Var.alloc ?_ _) | (with_reducible refine M.Var.drewN ?_ _) | (with_reducible refine M.Var.drew ?_) | (with_reducible refine M.Var.far ?_ _ _ ?hFar; case hFar => (first | omega | ((try simp [go_sem]) <;> omega))) | fail)) : M.Var _ (w.heap.size + 1) #[.int .i64 n]) (by intro u hu; all_goals (first | rw [M.usBx_block hu] | rw [M.usV_block hu] | rw [M.usI_block hu] | rw [M.usHt_block hu] | rw [M.usBd_block hu] | rw [M.usB_block hu] | rw [M.cell_block1 hu] | (exfalso; simp at hu; done)); all_goals ((try simp [go_sem]) <;> omega))) (by intro u hu; all_goals (first | rw [M.usBx_block hu] | rw [M.usV_block hu] | rw [M.usI_block hu] | rw [M.usHt_block hu] | rw [M.usBd_block hu] | rw [M.usB_block hu] | rw [M.cell_block1 hu] | (exfalso; simp at hu; done)); all_goals ((try simp [go_sem]) <;> omega)))) (M.sets_size _ _) hb
  have V2_p : M.Var w2 (w1.heap.size) #[.int .i64 x, .int .i64 y] := M.Var.mono' (u := M.sets _ (usV (w1.heap.size) (.ok (x, y)) ++ usV (w1.heap.size + 1) (.ok (-x, -y)))) (by (try simp only [M.sets_append]); exact (M.var_sets_far (usV (w1.heap.size + 1) (.ok (-x, -y))) (M.var_setV (by (repeat (first | (with_reducible assumption) | (refine M.var_alloc' _ _ _ ?_; first | rfl | (simp [go_sem]; done)) | (with_reducible refine M.Var.alloc ?_ _) | (with_reducible refine M.Var.drewN ?_ _) | (with_reducible refine M.Var.drew ?_) | (with_reducible refine M.Var.far ?_ _ _ ?hFar; case hFar => (first | omega | ((try simp [go_sem]) <;> omega))) | fail)) : M.Var _ (w1.heap.size) #[.int .i64 0, .int .i64 0]) _ _) (by intro u hu; all_goals (first | rw [M.usBx_block hu] | rw [M.usV_block hu] | rw [M.usI_block hu] | rw [M.usHt_block hu] | rw [M.usBd_block hu] | rw [M.usB_block hu] | rw [M.cell_block1 hu] | (exfalso; simp at hu; done)); all_goals ((try simp [go_sem]) <;> omega)))) (M.sets_size _ _) hb
  have V2_q : M.Var w2 (w1.heap.size + 1) #[.int .i64 (-x), .int .i64 (-y)] := M.Var.mono' (u := M.sets _ (usV (w1.heap.size) (.ok (x, y)) ++ usV (w1.heap.size + 1) (.ok (-x, -y)))) (by (try simp only [M.sets_append]); exact (M.var_setV (M.var_sets_far (usV (w1.heap.size) (.ok (x, y))) (by (repeat (first | (with_reducible assumption) | (refine M.var_alloc' _ _ _ ?_; first | rfl | (simp [go_sem]; done)) | (with_reducible refine M.Var.alloc ?_ _) | (with_reducible refine M.Var.drewN ?_ _) | (with_reducible refine M.Var.drew ?_) | (with_reducible refine M.Var.far ?_ _ _ ?hFar; case hFar => (first | omega | ((try simp [go_sem]) <;> omega))) | fail)) : M.Var _ (w1.heap.size + 1) #[.int .i64 0, .int .i64 0]) (by intro u hu; all_goals (first | rw [M.usBx_block hu] | rw [M.usV_block hu] | rw [M.usI_block hu] | rw [M.usHt_block hu] | rw [M.usBd_block hu] | rw [M.usB_block hu] | rw [M.cell_block1 hu] | (exfalso; simp at hu; done)); all_goals ((try simp [go_sem]) <;> omega))) _ _)) (M.sets_size _ _) hb
  have q2_a_0 := V2_a.c 0 _ rfl
  have q2_a_1 := V2_a.c 1 _ rfl
  have f2_a := V2_a.2.2; have L2_a := V2_a.lt; have N2_a := Nat.ne_of_gt L2_a; have M2_a := Nat.ne_of_lt L2_a
  have HV2_a := Lib.hid V2_a
  have q2_n_0 := V2_n.c 0 _ rfl
  have f2_n := V2_n.2.2; have L2_n := V2_n.lt; have N2_n := Nat.ne_of_gt L2_n; have M2_n := Nat.ne_of_lt L2_n
  have HV2_n := Lib.hid V2_n
  have q2_p_0 := V2_p.c 0 _ rfl
  have q2_p_1 := V2_p.c 1 _ rfl
  have f2_p := V2_p.2.2; have L2_p := V2_p.lt; have N2_p := Nat.ne_of_gt L2_p; have M2_p := Nat.ne_of_lt L2_p
  have HV2_p := Lib.hid V2_p
  have q2_q_0 := V2_q.c 0 _ rfl
  have q2_q_1 := V2_q.c 1 _ rfl
  have f2_q := V2_q.2.2; have L2_q := V2_q.lt; have N2_q := Nat.ne_of_gt L2_q; have M2_q := Nat.ne_of_lt L2_q
  have HV2_q := Lib.hid V2_q
  have S2 := G2.size; clear hb
  go_wp2_with fail
  first | go_region_held2 (fun w' => w'.cell? ⟨w.heap.size, 0, none⟩ = some (.int .i64 a1) ∧ w'.cell? ⟨w.heap.size, 1, none⟩ = some (.int .i64 a2) ∧ w'.cell? ⟨w1.heap.size, 0, none⟩ = some (.int .i64 x) ∧ w'.cell? ⟨w1.heap.size, 1, none⟩ = some (.int .i64 y) ∧ w'.cell? ⟨w.heap.size + 1, 0, none⟩ = some (.int .i64 n)) (go_keep)
    ((first
      | fail
    ))
        | fail "the region was not walked"
  all_goals go_wp2_with fail
  all_goals go_ret
  exact ⟨rfl, by (repeat (with_reducible refine M.Below.drewN ?_ _)); go_grown⟩

theorem lifted (os : Os) (started : os.Started) (H : Type) (enc : TypeId × Value → H) :
    ReturnsInHanded {} Try.checked os 23 .any (Rows.vecSharesSpec.pre6 enc Try.prog Try.f23 Rows.vecSharesRow.domain false) (Rows.vecSharesSpec.post enc Try.prog Try.f23 false true false false) := by
  refine returnsInHanded_of_change (C := Try.checked) own started (by kernel_rfl) Try.func23
    (ChangeSpec.witness6 (enc := enc) (C := Try.checked) false ⟨#[], #[.agg #[.int .i64 0, .int .i64 0], .int .i64 0], []⟩ 8 (by kernel_rfl) (by kernel_rfl) (by kernel_rfl) (by kernel_rfl)) ?_
  intro W base args ds gs before hval0 hW hcnd _
  have hval : ∀ (j : Nat) t v, Try.f23.params[j]? = some t → args[j]? = some v → Value.okWide Try.prog W .any base t v := hval0
  have hW' := hW
  obtain ⟨p, q, hA0, hV, rfl, hfz, hnd⟩ := hW
  have hA : DataW.TrodAll enc Try.prog W 0 (fun _ => true) true Try.f23.params.toList args.toList ds p := hA0
  rw [Try.params23] at hA hval
  obtain ⟨v0, vs0, d0, ds0, p0, q0, hargs, rfl, rfl, h0, r0⟩ := trodAll_cons hA
  obtain ⟨v1, vs1, d1, ds1, p1, q1, rfl, rfl, rfl, h1, r1⟩ := trodAll_cons r0
  obtain ⟨rfl, rfl, rfl⟩ := trodAll_nil r1
  obtain rfl : args = #[v0, v1] := by cases args; simp_all
  obtain ⟨rfl, rfl⟩ := trodVars_none hV
  obtain ⟨a1, a2, rfl, rfl, rfl, wa1, wa2⟩ := open_vec (hval 0 24 v0 rfl rfl) h0
  obtain ⟨n, rfl, rfl, rfl, wn⟩ := open_int Try.underlying3 (hval 1 3 v1 rfl rfl) h1
  clear hA0 hval0
  simp only [List.append_nil] at hW'
  refine (walk a1 a2 (i64_wf wa1) (i64_wf wa2) n (i64_wf wn) W).mono fun e W' ⟨he, hg⟩ => ?_
  subst he
  exact ⟨_, rfl, post_below (pa := []) (pv := []) hW' (fun _ _ _ => (trodAll_cons_mk (shut_bool Try.underlying4 _) trodAll_mk0)) (fun sp _ => (trodAll_cons_mk (shut_vec wa1 wa2) (trodAll_cons_mk (shut_int Try.underlying3 wn) trodAll_mk0))) (fun _ _ => rfl) rfl
    hg (ok_one (by kernel_rfl) rfl (okWide_bool_mk Try.underlying4 _))⟩

theorem closed : joinedFacts Try.prog 23 Try.f23 Rows.vecSharesSpec Rows.vecSharesRow = true := by
  unfold joinedFacts
  rw [fact_laid, fact_maps, fact_keys, fact_heard, fact_stops, fact_knobs, fact_enter, fact_lifts, fact_make]
  kernel_rfl

theorem over : Rows.vecSharesRow.holds Try.pinned (OpenSpec.ofChange Rows.vecSharesSpec) :=
  OpenClaim.holds_of_wide 23 Try.f23 rfl rfl rfl rfl rfl rfl rfl ⟨rfl, rfl, rfl, rfl, rfl⟩ rfl rfl rfl rfl rfl (by kernel_rfl) Try.func23 closed
    (of_decide_eq_true (by kernel_rfl)) (by unfold Func.isWrapper; first | (rw [if_pos (by decide +kernel)]; kernel_rfl) | (rw [if_neg (by decide +kernel)]; exact ⟨rfl, rfl⟩))
    (fun os started H enc _ => lifted os started H enc)

/-- The statement. -/
theorem proved : Rows.VecSharesSaid :=
  over
#print axioms proved
end Go.Proofs.Ytaagpkacningdaa.vecShares
