/- The laws of chapter 6 first ask whether vec is alive: it is. -/
import Derived.Test.YtaagpkacningdaaClo6
import Derived.Test.YtaagpkacningdaaVecMath
namespace Go.Proofs.Ytaagpkacningdaa
open Go.RowKit M
set_option maxRecDepth 100000
set_option maxHeartbeats 4000000
set_option linter.unusedVariables false
set_option linter.unusedSimpArgs false
theorem unit34 : unitX (12884901888, 17179869184) = .ok ((2576980377, 3435973836), 21474836480) := by
  have hn : nrm (12884901888, 17179869184) = 21474836480 := by
    unfold nrm
    exact isq_sq (r := 21474836480) (by omega) (by omega)
  rw [unitX_near (by unfold Near; dsimp only; omega)]
  unfold uV
  rw [hn, if_neg (by omega)]
  rfl
theorem clo6_alive1 (p q : Nat) (d0 d1 d2 : Value) (w : World) (hp : Var w p #[d0, d1]) (hq : Var w q #[d2]) (n1 : q ≠ p) :
    Calls Try.prog 167 #[.pointer (some ⟨p, 0, none⟩), .pointer (some ⟨q, 0, none⟩)] w fun e w' => e = outU 0 ∧ Below w.heap.size (sets w (usV p (.ok (2576980377, 3435973836)) ++ usI q (.ok 21474836480))) w' := by
  have C1 := Lib.hid (fun w => (vecUnit_x 12884901888 17179869184 (i64_lit (by decide)) (i64_lit (by decide)) w).mono fun e w' h => (⟨ret_VI unit34 h.1, h.2⟩ : e = .returned (.tuple #[.agg #[.int .i64 2576980377, .int .i64 3435973836], .int .i64 21474836480]) ∧ Bw w w'))
  have HU := Lib.hid (show ∀ u ∈ usV p (.ok (2576980377, 3435973836)) ++ usI q (.ok 21474836480), u.1.block < w.heap.size by
    intro u hu; rcases List.mem_append.1 hu with hu | hu
    · rw [usV_block hu]; exact hp.lt
    · rw [usI_block hu]; exact hq.lt)
  go_enter Try.func167, Try.ntmps167
  go_wp2_with fail
  (with_reducible refine (C1.out _).mono ?_); rintro en w1 ⟨rfl, hb⟩
  have G1 : Below w.heap.size w w1 := Below.trans (by (repeat (with_reducible refine M.Below.drewN ?_ _)); go_grown) (hb.mono (by go_size))
  have V1_p : M.Var w1 (p) #[d0, d1] := M.Var.mono (by (repeat (first | (with_reducible assumption) | (with_reducible refine M.var_alloc' _ _ _ ?_; first | rfl | (simp [go_sem]; done)) | (with_reducible refine M.Var.alloc ?_ _) | (with_reducible refine M.Var.drewN ?_ _) | (with_reducible refine M.Var.drew ?_) | (with_reducible refine M.Var.far ?_ _ _ ?hFar; case hFar => (first | omega | ((try simp [go_sem]) <;> omega))) | fail))) hb
  have V1_q : M.Var w1 (q) #[d2] := M.Var.mono (by (repeat (first | (with_reducible assumption) | (with_reducible refine M.var_alloc' _ _ _ ?_; first | rfl | (simp [go_sem]; done)) | (with_reducible refine M.Var.alloc ?_ _) | (with_reducible refine M.Var.drewN ?_ _) | (with_reducible refine M.Var.drew ?_) | (with_reducible refine M.Var.far ?_ _ _ ?hFar; case hFar => (first | omega | ((try simp [go_sem]) <;> omega))) | fail))) hb
  have q1_p_0 : w1.cell? ⟨p, 0, none⟩ = some (d0) := V1_p.c 0 _ rfl
  have q1_p_1 : w1.cell? ⟨p, 1, none⟩ = some (d1) := V1_p.c 1 _ rfl
  have f1_p := V1_p.2.2; have L1_p := V1_p.lt; have N1_p := Nat.ne_of_gt L1_p; have M1_p := Nat.ne_of_lt L1_p
  have HV1_p := Lib.hid V1_p
  have q1_q_0 : w1.cell? ⟨q, 0, none⟩ = some (d2) := V1_q.c 0 _ rfl
  have f1_q := V1_q.2.2; have L1_q := V1_q.lt; have N1_q := Nat.ne_of_gt L1_q; have M1_q := Nat.ne_of_lt L1_q
  have HV1_q := Lib.hid V1_q
  have S1 := G1.size; clear hb
  go_wp2_with fail
  exact bodyPost_end (v := .tuple #[]) (by first | rfl | kernel_rfl | simp [results, go_sem]) rfl ⟨rfl, M.below_sets _ (by assumption) HU.out⟩
theorem clo6_alive2 (w : World) : Calls Try.prog 168 #[] w fun e w' => e = outU 4 ∧ Bw w w' := by
  have e : overV (0, 0) 0 = .error 4 := by rfl
  have C1 := Lib.hid (fun w => (vecOver_x 0 0 0 (i64_lit (by decide)) (i64_lit (by decide)) (i64_lit (by decide)) w).mono fun _ w' h => (⟨(err_V e h.1).2, h.2⟩ : _ = panics 4 ∧ Bw w w'))
  go_enter Try.func168, Try.ntmps168
  go_wp2_with fail
  (with_reducible refine (C1.out _).mono ?_); rintro en w1 ⟨rfl, hb⟩
  exact ⟨rfl, rfl, hb⟩
theorem alive6_c (w : World) : Calls Try.prog 88 #[] w fun e w' => e = .returned (.bool true) ∧ Bw w w' := by
  go_enter Try.func88, Try.ntmps88
  go_wp2_with fail
  refine (try_c 167 #[.pointer (some ⟨w.heap.size, 0, none⟩), .pointer (some ⟨w.heap.size + 1, 0, none⟩)] _ (0) (usV w.heap.size (.ok (2576980377, 3435973836)) ++ usI (w.heap.size + 1) (.ok 21474836480)) (fun _ => rfl) ?_ ?_).mono ?_
  · intro u hu; (try simp only [List.mem_append] at hu); (repeat' (obtain hu | hu := (hu : _ ∨ _))); all_goals (first | rw [M.usBx_block hu] | rw [M.usV_block hu] | rw [M.usI_block hu] | rw [M.usHt_block hu] | rw [M.usBd_block hu] | rw [M.usB_block hu] | rw [M.cell_block1 hu] | (exfalso; simp at hu; done)); all_goals ((try simp [go_sem]) <;> omega)
  · intro w1' hb; exact (clo6_alive1 _ _ _ _ _ w1' (M.Var.mono (b := w.heap.size) (cs := #[.int .i64 0, .int .i64 0]) (by (repeat (first | (with_reducible assumption) | (with_reducible refine M.var_alloc' _ _ _ ?_; first | rfl | (simp [go_sem]; done)) | (with_reducible refine M.Var.alloc ?_ _) | (with_reducible refine M.Var.drewN ?_ _) | (with_reducible refine M.Var.drew ?_) | (with_reducible refine M.Var.far ?_ _ _ ?hFar; case hFar => (first | omega | ((try simp [go_sem]) <;> omega))) | fail))) hb) (M.Var.mono (b := w.heap.size + 1) (cs := #[.int .i64 0]) (by (repeat (first | (with_reducible assumption) | (with_reducible refine M.var_alloc' _ _ _ ?_; first | rfl | (simp [go_sem]; done)) | (with_reducible refine M.Var.alloc ?_ _) | (with_reducible refine M.Var.drewN ?_ _) | (with_reducible refine M.Var.drew ?_) | (with_reducible refine M.Var.far ?_ _ _ ?hFar; case hFar => (first | omega | ((try simp [go_sem]) <;> omega))) | fail))) hb) (by omega)).mono fun e w' h => h
  rintro en w1 ⟨rfl, hb⟩
  have G1 : Below w.heap.size w w1 := Below.trans (M.below_sets_own (usV w.heap.size (.ok (2576980377, 3435973836)) ++ usI (w.heap.size + 1) (.ok 21474836480)) (by (repeat (with_reducible refine M.Below.drewN ?_ _)); go_grown) (by intro u hu; (try simp only [List.mem_append] at hu); (repeat' (obtain hu | hu := (hu : _ ∨ _))); all_goals (first | rw [M.usBx_block hu] | rw [M.usV_block hu] | rw [M.usI_block hu] | rw [M.usHt_block hu] | rw [M.usBd_block hu] | rw [M.usB_block hu] | rw [M.cell_block1 hu] | (exfalso; simp at hu; done)); all_goals ((try simp [go_sem]) <;> omega))) (hb.mono (by go_size))
  have V1_p : M.Var w1 (w.heap.size) #[.int .i64 2576980377, .int .i64 3435973836] := M.Var.mono' (u := M.sets _ (usV w.heap.size (.ok (2576980377, 3435973836)) ++ usI (w.heap.size + 1) (.ok 21474836480))) (by (try simp only [M.sets_append]); exact (M.var_sets_far (usI (w.heap.size + 1) (.ok 21474836480)) (M.var_setV (by (repeat (first | (with_reducible assumption) | (with_reducible refine M.var_alloc' _ _ _ ?_; first | rfl | (simp [go_sem]; done)) | (with_reducible refine M.Var.alloc ?_ _) | (with_reducible refine M.Var.drewN ?_ _) | (with_reducible refine M.Var.drew ?_) | (with_reducible refine M.Var.far ?_ _ _ ?hFar; case hFar => (first | omega | ((try simp [go_sem]) <;> omega))) | fail)) : M.Var _ (w.heap.size) #[.int .i64 0, .int .i64 0]) _ _) (by intro u hu; all_goals (first | rw [M.usBx_block hu] | rw [M.usV_block hu] | rw [M.usI_block hu] | rw [M.usHt_block hu] | rw [M.usBd_block hu] | rw [M.usB_block hu] | rw [M.cell_block1 hu] | (exfalso; simp at hu; done)); all_goals ((try simp [go_sem]) <;> omega)))) (M.sets_size _ _) hb
  have V1_q : M.Var w1 (w.heap.size + 1) #[.int .i64 21474836480] := M.Var.mono' (u := M.sets _ (usV w.heap.size (.ok (2576980377, 3435973836)) ++ usI (w.heap.size + 1) (.ok 21474836480))) (by (try simp only [M.sets_append]); exact (M.var_setI (M.var_sets_far (usV w.heap.size (.ok (2576980377, 3435973836))) (by (repeat (first | (with_reducible assumption) | (with_reducible refine M.var_alloc' _ _ _ ?_; first | rfl | (simp [go_sem]; done)) | (with_reducible refine M.Var.alloc ?_ _) | (with_reducible refine M.Var.drewN ?_ _) | (with_reducible refine M.Var.drew ?_) | (with_reducible refine M.Var.far ?_ _ _ ?hFar; case hFar => (first | omega | ((try simp [go_sem]) <;> omega))) | fail)) : M.Var _ (w.heap.size + 1) #[.int .i64 0]) (by intro u hu; all_goals (first | rw [M.usBx_block hu] | rw [M.usV_block hu] | rw [M.usI_block hu] | rw [M.usHt_block hu] | rw [M.usBd_block hu] | rw [M.usB_block hu] | rw [M.cell_block1 hu] | (exfalso; simp at hu; done)); all_goals ((try simp [go_sem]) <;> omega))) _)) (M.sets_size _ _) hb
  have q1_p_0 : w1.cell? ⟨w.heap.size, 0, none⟩ = some (.int .i64 2576980377) := V1_p.c 0 _ rfl
  have q1_p_1 : w1.cell? ⟨w.heap.size, 1, none⟩ = some (.int .i64 3435973836) := V1_p.c 1 _ rfl
  have f1_p := V1_p.2.2; have L1_p := V1_p.lt; have N1_p := Nat.ne_of_gt L1_p; have M1_p := Nat.ne_of_lt L1_p
  have HV1_p := Lib.hid V1_p
  have q1_q_0 : w1.cell? ⟨w.heap.size + 1, 0, none⟩ = some (.int .i64 21474836480) := V1_q.c 0 _ rfl
  have f1_q := V1_q.2.2; have L1_q := V1_q.lt; have N1_q := Nat.ne_of_gt L1_q; have M1_q := Nat.ne_of_lt L1_q
  have HV1_q := Lib.hid V1_q
  have S1 := G1.size; clear hb
  go_wp2_with fail
  refine (try_c 168 #[] _ (4) ([]) (fun _ => rfl) ?_ ?_).mono ?_
  · intro u hu; (try simp only [List.mem_append] at hu); (repeat' (obtain hu | hu := (hu : _ ∨ _))); all_goals (first | rw [M.usBx_block hu] | rw [M.usV_block hu] | rw [M.usI_block hu] | rw [M.usHt_block hu] | rw [M.usBd_block hu] | rw [M.usB_block hu] | rw [M.cell_block1 hu] | (exfalso; simp at hu; done)); all_goals ((try simp [go_sem]) <;> omega)
  · intro w1' hb; exact (clo6_alive2 w1').mono fun e w' h => h
  rintro en w2 ⟨rfl, hb⟩
  have G2 : Below w.heap.size w w2 := Below.trans (M.below_sets_own ([]) (by (repeat (with_reducible refine M.Below.drewN ?_ _)); go_grown) (by intro u hu; (try simp only [List.mem_append] at hu); (repeat' (obtain hu | hu := (hu : _ ∨ _))); all_goals (first | rw [M.usBx_block hu] | rw [M.usV_block hu] | rw [M.usI_block hu] | rw [M.usHt_block hu] | rw [M.usBd_block hu] | rw [M.usB_block hu] | rw [M.cell_block1 hu] | (exfalso; simp at hu; done)); all_goals ((try simp [go_sem]) <;> omega))) (hb.mono (by go_size))
  have V2_p : M.Var w2 (w.heap.size) #[.int .i64 2576980377, .int .i64 3435973836] := M.Var.mono' (u := M.sets _ ([])) (by (try simp only [M.sets_append]); exact (M.var_sets_far ([]) (by (repeat (first | (with_reducible assumption) | (with_reducible refine M.var_alloc' _ _ _ ?_; first | rfl | (simp [go_sem]; done)) | (with_reducible refine M.Var.alloc ?_ _) | (with_reducible refine M.Var.drewN ?_ _) | (with_reducible refine M.Var.drew ?_) | (with_reducible refine M.Var.far ?_ _ _ ?hFar; case hFar => (first | omega | ((try simp [go_sem]) <;> omega))) | fail)) : M.Var _ (w.heap.size) #[.int .i64 2576980377, .int .i64 3435973836]) (by intro u hu; all_goals (first | rw [M.usBx_block hu] | rw [M.usV_block hu] | rw [M.usI_block hu] | rw [M.usHt_block hu] | rw [M.usBd_block hu] | rw [M.usB_block hu] | rw [M.cell_block1 hu] | (exfalso; simp at hu; done)); all_goals ((try simp [go_sem]) <;> omega)))) (M.sets_size _ _) hb
  have V2_q : M.Var w2 (w.heap.size + 1) #[.int .i64 21474836480] := M.Var.mono' (u := M.sets _ ([])) (by (try simp only [M.sets_append]); exact (M.var_sets_far ([]) (by (repeat (first | (with_reducible assumption) | (with_reducible refine M.var_alloc' _ _ _ ?_; first | rfl | (simp [go_sem]; done)) | (with_reducible refine M.Var.alloc ?_ _) | (with_reducible refine M.Var.drewN ?_ _) | (with_reducible refine M.Var.drew ?_) | (with_reducible refine M.Var.far ?_ _ _ ?hFar; case hFar => (first | omega | ((try simp [go_sem]) <;> omega))) | fail)) : M.Var _ (w.heap.size + 1) #[.int .i64 21474836480]) (by intro u hu; all_goals (first | rw [M.usBx_block hu] | rw [M.usV_block hu] | rw [M.usI_block hu] | rw [M.usHt_block hu] | rw [M.usBd_block hu] | rw [M.usB_block hu] | rw [M.cell_block1 hu] | (exfalso; simp at hu; done)); all_goals ((try simp [go_sem]) <;> omega)))) (M.sets_size _ _) hb
  have q2_p_0 : w2.cell? ⟨w.heap.size, 0, none⟩ = some (.int .i64 2576980377) := V2_p.c 0 _ rfl
  have q2_p_1 : w2.cell? ⟨w.heap.size, 1, none⟩ = some (.int .i64 3435973836) := V2_p.c 1 _ rfl
  have f2_p := V2_p.2.2; have L2_p := V2_p.lt; have N2_p := Nat.ne_of_gt L2_p; have M2_p := Nat.ne_of_lt L2_p
  have HV2_p := Lib.hid V2_p
  have q2_q_0 : w2.cell? ⟨w.heap.size + 1, 0, none⟩ = some (.int .i64 21474836480) := V2_q.c 0 _ rfl
  have f2_q := V2_q.2.2; have L2_q := V2_q.lt; have N2_q := Nat.ne_of_gt L2_q; have M2_q := Nat.ne_of_lt L2_q
  have HV2_q := Lib.hid V2_q
  have S2 := G2.size; clear hb
  go_wp2_with fail
  go_ret
  exact ⟨rfl, by (repeat (with_reducible refine M.Below.drewN ?_ _)); go_grown⟩
end Go.Proofs.Ytaagpkacningdaa
