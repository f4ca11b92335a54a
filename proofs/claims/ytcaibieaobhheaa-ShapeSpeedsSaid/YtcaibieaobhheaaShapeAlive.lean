/- The laws of chapter 7 first ask whether shape is alive: it is. -/
import Derived.Test.YtcaibieaobhheaaVar2
import Derived.Test.YtcaibieaobhheaaRight
import Derived.Test.YtcaibieaobhheaaTouchMath
import Derived.Deep.RegionHeld2
import Derived.Deep.DrawnRows
namespace Go.Proofs.Ytcaibieaobhheaa
open Go.RowKit M
set_option maxRecDepth 100000
set_option maxHeartbeats 4000000
set_option linter.unusedVariables false
set_option linter.unusedSimpArgs false
attribute [local go_sem ↓] Go.wp_at_zero Go.wp_at_succ
def bd7 : Bd := ⟨1, 4294967296, 0, 8589934592, 0, 0, 17179869184, 0⟩
theorem bd7_ok : bd7.ok := ⟨i64_lit (by decide), i64_lit (by decide), i64_lit (by decide), i64_lit (by decide), i64_lit (by decide), i64_lit (by decide), i64_lit (by decide), i64_lit (by decide)⟩
theorem clo7_alive (p q r : Nat) (d0 d1 d2 : Value) (w : World) (hp : Var w p #[.int .i64 1, .int .i64 4294967296, .int .i64 0, .int .i64 8589934592, .int .i64 0, .int .i64 0, .int .i64 17179869184, .int .i64 0])
    (hq : Var w q #[d0, d1]) (hr : Var w r #[d2]) (n1 : q ≠ p) (n2 : r ≠ p) (n3 : r ≠ q) :
    Calls Try.prog 96 #[.pointer (some ⟨p, 0, none⟩), .pointer (some ⟨q, 0, none⟩), .pointer (some ⟨r, 0, none⟩)] w fun e w' => e = outU 0 ∧ Below w.heap.size (sets w (usV q (.ok (8589934592, 0)) ++ usI r (.ok 2147483648))) w' := by
  have s1 : speedX bd7 = .ok (8589934592, 0) := by rfl
  have s2 : lightX bd7 = .ok 2147483648 := by rfl
  have C1 := Lib.hid (fun w => (speed_x bd7 bd7_ok w).mono fun e w' h => (⟨ret_V s1 h.1, h.2⟩ : e = .returned (.agg #[.int .i64 8589934592, .int .i64 0]) ∧ Bw w w'))
  have C2 := Lib.hid (fun w => (light_x bd7 bd7_ok w).mono fun e w' h => (⟨ret_I s2 h.1, h.2⟩ : e = .returned (.int .i64 2147483648) ∧ Bw w w'))
  clear s1 s2
  unfold bd7 at C1 C2
  have HU := Lib.hid (show ∀ u ∈ usV q (.ok (8589934592, 0)) ++ usI r (.ok 2147483648), u.1.block < w.heap.size by
    intro u hu; rcases List.mem_append.1 hu with hu | hu
    · rw [usV_block hu]; exact hq.lt
    · rw [usI_block hu]; exact hr.lt)
  have hpc := hp.c
  have p0 := hp.c 0 _ rfl; have p1 := hp.c 1 _ rfl; have p2 := hp.c 2 _ rfl; have p3 := hp.c 3 _ rfl; have p4 := hp.c 4 _ rfl; have p5 := hp.c 5 _ rfl; have p6 := hp.c 6 _ rfl; have p7 := hp.c 7 _ rfl
  clear hpc
  go_enter Try.func96, Try.ntmps96
  go_wp2_with fail
  first | go_region_held2 (fun w' => w'.cell? ⟨p, 0, none⟩ = some (.int .i64 1) ∧ w'.cell? ⟨p, 1, none⟩ = some (.int .i64 4294967296) ∧ w'.cell? ⟨p, 2, none⟩ = some (.int .i64 0) ∧ w'.cell? ⟨p, 3, none⟩ = some (.int .i64 8589934592) ∧ w'.cell? ⟨p, 4, none⟩ = some (.int .i64 0) ∧ w'.cell? ⟨p, 5, none⟩ = some (.int .i64 0) ∧ w'.cell? ⟨p, 6, none⟩ = some (.int .i64 17179869184) ∧ w'.cell? ⟨p, 7, none⟩ = some (.int .i64 0)) (go_keep)
    ((first
        | (go_at_call 53; (with_reducible refine (C1.out _).mono ?_); rintro en w1 ⟨rfl, hb⟩
           have G1 : Below w.heap.size w w1 := Below.trans (by (repeat (with_reducible refine M.Below.drewN ?_ _)); go_grown) (hb.mono (by go_size))
           have V1_p : M.Var w1 (p) #[.int .i64 1, .int .i64 4294967296, .int .i64 0, .int .i64 8589934592, .int .i64 0, .int .i64 0, .int .i64 17179869184, .int .i64 0] := M.Var.mono (by (repeat (first | (with_reducible assumption) | (with_reducible apply M.var_set45) | (with_reducible refine M.var_alloc' _ _ _ ?_; first | rfl | (simp [go_sem]; done)) | (with_reducible refine M.Var.alloc ?_ _) | (with_reducible refine M.Var.drewN ?_ _) | (with_reducible refine M.Var.drew ?_) | (with_reducible refine M.Var.far ?_ _ _ ?hFar; case hFar => (first | omega | ((try simp [go_sem]) <;> omega))) | fail))) hb
           have V1_q : M.Var w1 (q) #[d0, d1] := M.Var.mono (by (repeat (first | (with_reducible assumption) | (with_reducible apply M.var_set45) | (with_reducible refine M.var_alloc' _ _ _ ?_; first | rfl | (simp [go_sem]; done)) | (with_reducible refine M.Var.alloc ?_ _) | (with_reducible refine M.Var.drewN ?_ _) | (with_reducible refine M.Var.drew ?_) | (with_reducible refine M.Var.far ?_ _ _ ?hFar; case hFar => (first | omega | ((try simp [go_sem]) <;> omega))) | fail))) hb
           have V1_r : M.Var w1 (r) #[d2] := M.Var.mono (by (repeat (first | (with_reducible assumption) | (with_reducible apply M.var_set45) | (with_reducible refine M.var_alloc' _ _ _ ?_; first | rfl | (simp [go_sem]; done)) | (with_reducible refine M.Var.alloc ?_ _) | (with_reducible refine M.Var.drewN ?_ _) | (with_reducible refine M.Var.drew ?_) | (with_reducible refine M.Var.far ?_ _ _ ?hFar; case hFar => (first | omega | ((try simp [go_sem]) <;> omega))) | fail))) hb
           have q1_p_0 : w1.cell? ⟨p, 0, none⟩ = some (.int .i64 1) := V1_p.c 0 _ rfl
           have q1_p_1 : w1.cell? ⟨p, 1, none⟩ = some (.int .i64 4294967296) := V1_p.c 1 _ rfl
           have q1_p_2 : w1.cell? ⟨p, 2, none⟩ = some (.int .i64 0) := V1_p.c 2 _ rfl
           have q1_p_3 : w1.cell? ⟨p, 3, none⟩ = some (.int .i64 8589934592) := V1_p.c 3 _ rfl
           have q1_p_4 : w1.cell? ⟨p, 4, none⟩ = some (.int .i64 0) := V1_p.c 4 _ rfl
           have q1_p_5 : w1.cell? ⟨p, 5, none⟩ = some (.int .i64 0) := V1_p.c 5 _ rfl
           have q1_p_6 : w1.cell? ⟨p, 6, none⟩ = some (.int .i64 17179869184) := V1_p.c 6 _ rfl
           have q1_p_7 : w1.cell? ⟨p, 7, none⟩ = some (.int .i64 0) := V1_p.c 7 _ rfl
           have f1_p := V1_p.2.2; have L1_p := V1_p.lt; have N1_p := Nat.ne_of_gt L1_p; have M1_p := Nat.ne_of_lt L1_p
           have HV1_p := Lib.hid V1_p
           have q1_q_0 : w1.cell? ⟨q, 0, none⟩ = some (d0) := V1_q.c 0 _ rfl
           have q1_q_1 : w1.cell? ⟨q, 1, none⟩ = some (d1) := V1_q.c 1 _ rfl
           have f1_q := V1_q.2.2; have L1_q := V1_q.lt; have N1_q := Nat.ne_of_gt L1_q; have M1_q := Nat.ne_of_lt L1_q
           have HV1_q := Lib.hid V1_q
           have q1_r_0 : w1.cell? ⟨r, 0, none⟩ = some (d2) := V1_r.c 0 _ rfl
           have f1_r := V1_r.2.2; have L1_r := V1_r.lt; have N1_r := Nat.ne_of_gt L1_r; have M1_r := Nat.ne_of_lt L1_r
           have HV1_r := Lib.hid V1_r
           have S1 := G1.size; clear hb)
        | (go_at_call 54; (with_reducible refine (C2.out _).mono ?_); rintro en w2 ⟨rfl, hb⟩
           have G2 : Below w.heap.size w w2 := Below.trans (by (repeat (with_reducible refine M.Below.drewN ?_ _)); go_grown) (hb.mono (by go_size))
           have V2_p : M.Var w2 (p) #[.int .i64 1, .int .i64 4294967296, .int .i64 0, .int .i64 8589934592, .int .i64 0, .int .i64 0, .int .i64 17179869184, .int .i64 0] := M.Var.mono (by (repeat (first | (with_reducible assumption) | (with_reducible apply M.var_set45) | (with_reducible refine M.var_alloc' _ _ _ ?_; first | rfl | (simp [go_sem]; done)) | (with_reducible refine M.Var.alloc ?_ _) | (with_reducible refine M.Var.drewN ?_ _) | (with_reducible refine M.Var.drew ?_) | (with_reducible refine M.Var.far ?_ _ _ ?hFar; case hFar => (first | omega | ((try simp [go_sem]) <;> omega))) | fail))) hb
           have V2_q : M.Var w2 (q) #[d0, d1] := M.Var.mono (by (repeat (first | (with_reducible assumption) | (with_reducible apply M.var_set45) | (with_reducible refine M.var_alloc' _ _ _ ?_; first | rfl | (simp [go_sem]; done)) | (with_reducible refine M.Var.alloc ?_ _) | (with_reducible refine M.Var.drewN ?_ _) | (with_reducible refine M.Var.drew ?_) | (with_reducible refine M.Var.far ?_ _ _ ?hFar; case hFar => (first | omega | ((try simp [go_sem]) <;> omega))) | fail))) hb
           have V2_r : M.Var w2 (r) #[d2] := M.Var.mono (by (repeat (first | (with_reducible assumption) | (with_reducible apply M.var_set45) | (with_reducible refine M.var_alloc' _ _ _ ?_; first | rfl | (simp [go_sem]; done)) | (with_reducible refine M.Var.alloc ?_ _) | (with_reducible refine M.Var.drewN ?_ _) | (with_reducible refine M.Var.drew ?_) | (with_reducible refine M.Var.far ?_ _ _ ?hFar; case hFar => (first | omega | ((try simp [go_sem]) <;> omega))) | fail))) hb
           have q2_p_0 : w2.cell? ⟨p, 0, none⟩ = some (.int .i64 1) := V2_p.c 0 _ rfl
           have q2_p_1 : w2.cell? ⟨p, 1, none⟩ = some (.int .i64 4294967296) := V2_p.c 1 _ rfl
           have q2_p_2 : w2.cell? ⟨p, 2, none⟩ = some (.int .i64 0) := V2_p.c 2 _ rfl
           have q2_p_3 : w2.cell? ⟨p, 3, none⟩ = some (.int .i64 8589934592) := V2_p.c 3 _ rfl
           have q2_p_4 : w2.cell? ⟨p, 4, none⟩ = some (.int .i64 0) := V2_p.c 4 _ rfl
           have q2_p_5 : w2.cell? ⟨p, 5, none⟩ = some (.int .i64 0) := V2_p.c 5 _ rfl
           have q2_p_6 : w2.cell? ⟨p, 6, none⟩ = some (.int .i64 17179869184) := V2_p.c 6 _ rfl
           have q2_p_7 : w2.cell? ⟨p, 7, none⟩ = some (.int .i64 0) := V2_p.c 7 _ rfl
           have f2_p := V2_p.2.2; have L2_p := V2_p.lt; have N2_p := Nat.ne_of_gt L2_p; have M2_p := Nat.ne_of_lt L2_p
           have HV2_p := Lib.hid V2_p
           have q2_q_0 : w2.cell? ⟨q, 0, none⟩ = some (d0) := V2_q.c 0 _ rfl
           have q2_q_1 : w2.cell? ⟨q, 1, none⟩ = some (d1) := V2_q.c 1 _ rfl
           have f2_q := V2_q.2.2; have L2_q := V2_q.lt; have N2_q := Nat.ne_of_gt L2_q; have M2_q := Nat.ne_of_lt L2_q
           have HV2_q := Lib.hid V2_q
           have q2_r_0 : w2.cell? ⟨r, 0, none⟩ = some (d2) := V2_r.c 0 _ rfl
           have f2_r := V2_r.2.2; have L2_r := V2_r.lt; have N2_r := Nat.ne_of_gt L2_r; have M2_r := Nat.ne_of_lt L2_r
           have HV2_r := Lib.hid V2_r
           have S2 := G2.size; clear hb)
    ))
        | fail "the region was not walked"
  all_goals
    go_wp2_with fail
    exact bodyPost_end (v := .tuple #[]) (by first | rfl | kernel_rfl | simp [results, go_sem]) rfl ⟨rfl, by (repeat (with_reducible refine M.Below.drewN ?_ _)); exact M.below_sets _ (by assumption) HU.out⟩
theorem alive7_c (w : World) : Calls Try.prog 51 #[] w fun e w' => e = .returned (.bool true) ∧ Bw w w' := by
  have c1 := right_x bd7
  have c2 := name_x 2
  have c3 := right_x ⟨0, 0, 0, 0, 0, 0, 0, 0⟩
  rw [show rightB bd7 = true by decide] at c1
  rw [show rightB ⟨0, 0, 0, 0, 0, 0, 0, 0⟩ = false by decide] at c3
  rw [show nameS 2 = ⟨#[99, 114, 97, 116, 101]⟩ from rfl] at c2
  unfold bd7 at c1
  have C1 := Lib.hid c1; have C2 := Lib.hid c2; have C3 := Lib.hid c3
  clear c1 c2 c3
  go_enter Try.func51, Try.ntmps51
  go_wp2_with fail
  refine (try_c 96 #[.pointer (some ⟨w.heap.size, 0, none⟩), .pointer (some ⟨w.heap.size + 1, 0, none⟩), .pointer (some ⟨w.heap.size + 1 + 1, 0, none⟩)] _ (0) (usV (w.heap.size + 1) (.ok (8589934592, 0)) ++ usI (w.heap.size + 1 + 1) (.ok 2147483648)) (fun _ => rfl) ?_ ?_).mono ?_
  · intro u hu; (try simp only [List.mem_append] at hu); (repeat' (obtain hu | hu := (hu : _ ∨ _))); all_goals (first | rw [M.usBx_block hu] | rw [M.usV_block hu] | rw [M.usI_block hu] | rw [M.usHt_block hu] | rw [M.usBd_block hu] | rw [M.usB_block hu] | rw [M.cell_block1 hu] | (exfalso; simp at hu; done)); all_goals ((try simp [go_sem]) <;> omega)
  · intro w1' hb; exact (clo7_alive _ _ _ _ _ _ w1' (M.Var.mono (b := w.heap.size) (cs := #[.int .i64 1, .int .i64 4294967296, .int .i64 0, .int .i64 8589934592, .int .i64 0, .int .i64 0, .int .i64 17179869184, .int .i64 0]) (by (repeat (first | (with_reducible assumption) | (with_reducible apply M.var_set45) | (with_reducible refine M.var_alloc' _ _ _ ?_; first | rfl | (simp [go_sem]; done)) | (with_reducible refine M.Var.alloc ?_ _) | (with_reducible refine M.Var.drewN ?_ _) | (with_reducible refine M.Var.drew ?_) | (with_reducible refine M.Var.far ?_ _ _ ?hFar; case hFar => (first | omega | ((try simp [go_sem]) <;> omega))) | fail))) hb) (M.Var.mono (b := w.heap.size + 1) (cs := #[.int .i64 0, .int .i64 0]) (by (repeat (first | (with_reducible assumption) | (with_reducible apply M.var_set45) | (with_reducible refine M.var_alloc' _ _ _ ?_; first | rfl | (simp [go_sem]; done)) | (with_reducible refine M.Var.alloc ?_ _) | (with_reducible refine M.Var.drewN ?_ _) | (with_reducible refine M.Var.drew ?_) | (with_reducible refine M.Var.far ?_ _ _ ?hFar; case hFar => (first | omega | ((try simp [go_sem]) <;> omega))) | fail))) hb) (M.Var.mono (b := w.heap.size + 1 + 1) (cs := #[.int .i64 0]) (by (repeat (first | (with_reducible assumption) | (with_reducible apply M.var_set45) | (with_reducible refine M.var_alloc' _ _ _ ?_; first | rfl | (simp [go_sem]; done)) | (with_reducible refine M.Var.alloc ?_ _) | (with_reducible refine M.Var.drewN ?_ _) | (with_reducible refine M.Var.drew ?_) | (with_reducible refine M.Var.far ?_ _ _ ?hFar; case hFar => (first | omega | ((try simp [go_sem]) <;> omega))) | fail))) hb) (by omega) (by omega) (by omega)).mono fun e w' h => h
  rintro en w1 ⟨rfl, hb⟩
  have G1 : Below w.heap.size w w1 := Below.trans (M.below_sets_own (usV (w.heap.size + 1) (.ok (8589934592, 0)) ++ usI (w.heap.size + 1 + 1) (.ok 2147483648)) (by (repeat (with_reducible refine M.Below.drewN ?_ _)); go_grown) (by intro u hu; (try simp only [List.mem_append] at hu); (repeat' (obtain hu | hu := (hu : _ ∨ _))); all_goals (first | rw [M.usBx_block hu] | rw [M.usV_block hu] | rw [M.usI_block hu] | rw [M.usHt_block hu] | rw [M.usBd_block hu] | rw [M.usB_block hu] | rw [M.cell_block1 hu] | (exfalso; simp at hu; done)); all_goals ((try simp [go_sem]) <;> omega))) (hb.mono (by go_size))
  have V1_p : M.Var w1 (w.heap.size) #[.int .i64 1, .int .i64 4294967296, .int .i64 0, .int .i64 8589934592, .int .i64 0, .int .i64 0, .int .i64 17179869184, .int .i64 0] := M.Var.mono' (u := M.sets _ (usV (w.heap.size + 1) (.ok (8589934592, 0)) ++ usI (w.heap.size + 1 + 1) (.ok 2147483648))) (by (try simp only [M.sets_append]); exact (M.var_sets_far (usI (w.heap.size + 1 + 1) (.ok 2147483648)) (M.var_sets_far (usV (w.heap.size + 1) (.ok (8589934592, 0))) (by (repeat (first | (with_reducible assumption) | (with_reducible apply M.var_set45) | (with_reducible refine M.var_alloc' _ _ _ ?_; first | rfl | (simp [go_sem]; done)) | (with_reducible refine M.Var.alloc ?_ _) | (with_reducible refine M.Var.drewN ?_ _) | (with_reducible refine M.Var.drew ?_) | (with_reducible refine M.Var.far ?_ _ _ ?hFar; case hFar => (first | omega | ((try simp [go_sem]) <;> omega))) | fail)) : M.Var _ (w.heap.size) #[.int .i64 1, .int .i64 4294967296, .int .i64 0, .int .i64 8589934592, .int .i64 0, .int .i64 0, .int .i64 17179869184, .int .i64 0]) (by intro u hu; all_goals (first | rw [M.usBx_block hu] | rw [M.usV_block hu] | rw [M.usI_block hu] | rw [M.usHt_block hu] | rw [M.usBd_block hu] | rw [M.usB_block hu] | rw [M.cell_block1 hu] | (exfalso; simp at hu; done)); all_goals ((try simp [go_sem]) <;> omega))) (by intro u hu; all_goals (first | rw [M.usBx_block hu] | rw [M.usV_block hu] | rw [M.usI_block hu] | rw [M.usHt_block hu] | rw [M.usBd_block hu] | rw [M.usB_block hu] | rw [M.cell_block1 hu] | (exfalso; simp at hu; done)); all_goals ((try simp [go_sem]) <;> omega)))) (M.sets_size _ _) hb
  have V1_q : M.Var w1 (w.heap.size + 1) #[.int .i64 8589934592, .int .i64 0] := M.Var.mono' (u := M.sets _ (usV (w.heap.size + 1) (.ok (8589934592, 0)) ++ usI (w.heap.size + 1 + 1) (.ok 2147483648))) (by (try simp only [M.sets_append]); exact (M.var_sets_far (usI (w.heap.size + 1 + 1) (.ok 2147483648)) (M.var_setV (by (repeat (first | (with_reducible assumption) | (with_reducible apply M.var_set45) | (with_reducible refine M.var_alloc' _ _ _ ?_; first | rfl | (simp [go_sem]; done)) | (with_reducible refine M.Var.alloc ?_ _) | (with_reducible refine M.Var.drewN ?_ _) | (with_reducible refine M.Var.drew ?_) | (with_reducible refine M.Var.far ?_ _ _ ?hFar; case hFar => (first | omega | ((try simp [go_sem]) <;> omega))) | fail)) : M.Var _ (w.heap.size + 1) #[.int .i64 0, .int .i64 0]) _ _) (by intro u hu; all_goals (first | rw [M.usBx_block hu] | rw [M.usV_block hu] | rw [M.usI_block hu] | rw [M.usHt_block hu] | rw [M.usBd_block hu] | rw [M.usB_block hu] | rw [M.cell_block1 hu] | (exfalso; simp at hu; done)); all_goals ((try simp [go_sem]) <;> omega)))) (M.sets_size _ _) hb
  have V1_r : M.Var w1 (w.heap.size + 1 + 1) #[.int .i64 2147483648] := M.Var.mono' (u := M.sets _ (usV (w.heap.size + 1) (.ok (8589934592, 0)) ++ usI (w.heap.size + 1 + 1) (.ok 2147483648))) (by (try simp only [M.sets_append]); exact (M.var_setI (M.var_sets_far (usV (w.heap.size + 1) (.ok (8589934592, 0))) (by (repeat (first | (with_reducible assumption) | (with_reducible apply M.var_set45) | (with_reducible refine M.var_alloc' _ _ _ ?_; first | rfl | (simp [go_sem]; done)) | (with_reducible refine M.Var.alloc ?_ _) | (with_reducible refine M.Var.drewN ?_ _) | (with_reducible refine M.Var.drew ?_) | (with_reducible refine M.Var.far ?_ _ _ ?hFar; case hFar => (first | omega | ((try simp [go_sem]) <;> omega))) | fail)) : M.Var _ (w.heap.size + 1 + 1) #[.int .i64 0]) (by intro u hu; all_goals (first | rw [M.usBx_block hu] | rw [M.usV_block hu] | rw [M.usI_block hu] | rw [M.usHt_block hu] | rw [M.usBd_block hu] | rw [M.usB_block hu] | rw [M.cell_block1 hu] | (exfalso; simp at hu; done)); all_goals ((try simp [go_sem]) <;> omega))) _)) (M.sets_size _ _) hb
  have q1_p_0 : w1.cell? ⟨w.heap.size, 0, none⟩ = some (.int .i64 1) := V1_p.c 0 _ rfl
  have q1_p_1 : w1.cell? ⟨w.heap.size, 1, none⟩ = some (.int .i64 4294967296) := V1_p.c 1 _ rfl
  have q1_p_2 : w1.cell? ⟨w.heap.size, 2, none⟩ = some (.int .i64 0) := V1_p.c 2 _ rfl
  have q1_p_3 : w1.cell? ⟨w.heap.size, 3, none⟩ = some (.int .i64 8589934592) := V1_p.c 3 _ rfl
  have q1_p_4 : w1.cell? ⟨w.heap.size, 4, none⟩ = some (.int .i64 0) := V1_p.c 4 _ rfl
  have q1_p_5 : w1.cell? ⟨w.heap.size, 5, none⟩ = some (.int .i64 0) := V1_p.c 5 _ rfl
  have q1_p_6 : w1.cell? ⟨w.heap.size, 6, none⟩ = some (.int .i64 17179869184) := V1_p.c 6 _ rfl
  have q1_p_7 : w1.cell? ⟨w.heap.size, 7, none⟩ = some (.int .i64 0) := V1_p.c 7 _ rfl
  have f1_p := V1_p.2.2; have L1_p := V1_p.lt; have N1_p := Nat.ne_of_gt L1_p; have M1_p := Nat.ne_of_lt L1_p
  have HV1_p := Lib.hid V1_p
  have q1_q_0 : w1.cell? ⟨w.heap.size + 1, 0, none⟩ = some (.int .i64 8589934592) := V1_q.c 0 _ rfl
  have q1_q_1 : w1.cell? ⟨w.heap.size + 1, 1, none⟩ = some (.int .i64 0) := V1_q.c 1 _ rfl
  have f1_q := V1_q.2.2; have L1_q := V1_q.lt; have N1_q := Nat.ne_of_gt L1_q; have M1_q := Nat.ne_of_lt L1_q
  have HV1_q := Lib.hid V1_q
  have q1_r_0 : w1.cell? ⟨w.heap.size + 1 + 1, 0, none⟩ = some (.int .i64 2147483648) := V1_r.c 0 _ rfl
  have f1_r := V1_r.2.2; have L1_r := V1_r.lt; have N1_r := Nat.ne_of_gt L1_r; have M1_r := Nat.ne_of_lt L1_r
  have HV1_r := Lib.hid V1_r
  have S1 := G1.size; clear hb
  go_wp2_with fail
  (with_reducible refine (C1.out _).mono ?_); rintro en w2 ⟨rfl, hb⟩
  have G2 : Below w.heap.size w w2 := Below.trans (by (repeat (with_reducible refine M.Below.drewN ?_ _)); go_grown) (hb.mono (by go_size))
  have V2_p : M.Var w2 (w.heap.size) #[.int .i64 1, .int .i64 4294967296, .int .i64 0, .int .i64 8589934592, .int .i64 0, .int .i64 0, .int .i64 17179869184, .int .i64 0] := M.Var.mono (by (repeat (first | (with_reducible assumption) | (with_reducible apply M.var_set45) | (with_reducible refine M.var_alloc' _ _ _ ?_; first | rfl | (simp [go_sem]; done)) | (with_reducible refine M.Var.alloc ?_ _) | (with_reducible refine M.Var.drewN ?_ _) | (with_reducible refine M.Var.drew ?_) | (with_reducible refine M.Var.far ?_ _ _ ?hFar; case hFar => (first | omega | ((try simp [go_sem]) <;> omega))) | fail))) hb
  have V2_q : M.Var w2 (w.heap.size + 1) #[.int .i64 8589934592, .int .i64 0] := M.Var.mono (by (repeat (first | (with_reducible assumption) | (with_reducible apply M.var_set45) | (with_reducible refine M.var_alloc' _ _ _ ?_; first | rfl | (simp [go_sem]; done)) | (with_reducible refine M.Var.alloc ?_ _) | (with_reducible refine M.Var.drewN ?_ _) | (with_reducible refine M.Var.drew ?_) | (with_reducible refine M.Var.far ?_ _ _ ?hFar; case hFar => (first | omega | ((try simp [go_sem]) <;> omega))) | fail))) hb
  have V2_r : M.Var w2 (w.heap.size + 1 + 1) #[.int .i64 2147483648] := M.Var.mono (by (repeat (first | (with_reducible assumption) | (with_reducible apply M.var_set45) | (with_reducible refine M.var_alloc' _ _ _ ?_; first | rfl | (simp [go_sem]; done)) | (with_reducible refine M.Var.alloc ?_ _) | (with_reducible refine M.Var.drewN ?_ _) | (with_reducible refine M.Var.drew ?_) | (with_reducible refine M.Var.far ?_ _ _ ?hFar; case hFar => (first | omega | ((try simp [go_sem]) <;> omega))) | fail))) hb
  have q2_p_0 : w2.cell? ⟨w.heap.size, 0, none⟩ = some (.int .i64 1) := V2_p.c 0 _ rfl
  have q2_p_1 : w2.cell? ⟨w.heap.size, 1, none⟩ = some (.int .i64 4294967296) := V2_p.c 1 _ rfl
  have q2_p_2 : w2.cell? ⟨w.heap.size, 2, none⟩ = some (.int .i64 0) := V2_p.c 2 _ rfl
  have q2_p_3 : w2.cell? ⟨w.heap.size, 3, none⟩ = some (.int .i64 8589934592) := V2_p.c 3 _ rfl
  have q2_p_4 : w2.cell? ⟨w.heap.size, 4, none⟩ = some (.int .i64 0) := V2_p.c 4 _ rfl
  have q2_p_5 : w2.cell? ⟨w.heap.size, 5, none⟩ = some (.int .i64 0) := V2_p.c 5 _ rfl
  have q2_p_6 : w2.cell? ⟨w.heap.size, 6, none⟩ = some (.int .i64 17179869184) := V2_p.c 6 _ rfl
  have q2_p_7 : w2.cell? ⟨w.heap.size, 7, none⟩ = some (.int .i64 0) := V2_p.c 7 _ rfl
  have f2_p := V2_p.2.2; have L2_p := V2_p.lt; have N2_p := Nat.ne_of_gt L2_p; have M2_p := Nat.ne_of_lt L2_p
  have HV2_p := Lib.hid V2_p
  have q2_q_0 : w2.cell? ⟨w.heap.size + 1, 0, none⟩ = some (.int .i64 8589934592) := V2_q.c 0 _ rfl
  have q2_q_1 : w2.cell? ⟨w.heap.size + 1, 1, none⟩ = some (.int .i64 0) := V2_q.c 1 _ rfl
  have f2_q := V2_q.2.2; have L2_q := V2_q.lt; have N2_q := Nat.ne_of_gt L2_q; have M2_q := Nat.ne_of_lt L2_q
  have HV2_q := Lib.hid V2_q
  have q2_r_0 : w2.cell? ⟨w.heap.size + 1 + 1, 0, none⟩ = some (.int .i64 2147483648) := V2_r.c 0 _ rfl
  have f2_r := V2_r.2.2; have L2_r := V2_r.lt; have N2_r := Nat.ne_of_gt L2_r; have M2_r := Nat.ne_of_lt L2_r
  have HV2_r := Lib.hid V2_r
  have S2 := G2.size; clear hb
  go_wp2_with fail
  (with_reducible refine (C2.out _).mono ?_); rintro en w' ⟨rfl, d3, rfl⟩
  go_wp2_with fail
  (with_reducible refine (C3.out _).mono ?_); rintro en w4 ⟨rfl, hb⟩
  have G4 : Below w.heap.size w w4 := Below.trans (by (repeat (with_reducible refine M.Below.drewN ?_ _)); go_grown) (hb.mono (by go_size))
  have V4_p : M.Var w4 (w.heap.size) #[.int .i64 1, .int .i64 4294967296, .int .i64 0, .int .i64 8589934592, .int .i64 0, .int .i64 0, .int .i64 17179869184, .int .i64 0] := M.Var.mono (by (repeat (first | (with_reducible assumption) | (with_reducible apply M.var_set45) | (with_reducible refine M.var_alloc' _ _ _ ?_; first | rfl | (simp [go_sem]; done)) | (with_reducible refine M.Var.alloc ?_ _) | (with_reducible refine M.Var.drewN ?_ _) | (with_reducible refine M.Var.drew ?_) | (with_reducible refine M.Var.far ?_ _ _ ?hFar; case hFar => (first | omega | ((try simp [go_sem]) <;> omega))) | fail))) hb
  have V4_q : M.Var w4 (w.heap.size + 1) #[.int .i64 8589934592, .int .i64 0] := M.Var.mono (by (repeat (first | (with_reducible assumption) | (with_reducible apply M.var_set45) | (with_reducible refine M.var_alloc' _ _ _ ?_; first | rfl | (simp [go_sem]; done)) | (with_reducible refine M.Var.alloc ?_ _) | (with_reducible refine M.Var.drewN ?_ _) | (with_reducible refine M.Var.drew ?_) | (with_reducible refine M.Var.far ?_ _ _ ?hFar; case hFar => (first | omega | ((try simp [go_sem]) <;> omega))) | fail))) hb
  have V4_r : M.Var w4 (w.heap.size + 1 + 1) #[.int .i64 2147483648] := M.Var.mono (by (repeat (first | (with_reducible assumption) | (with_reducible apply M.var_set45) | (with_reducible refine M.var_alloc' _ _ _ ?_; first | rfl | (simp [go_sem]; done)) | (with_reducible refine M.Var.alloc ?_ _) | (with_reducible refine M.Var.drewN ?_ _) | (with_reducible refine M.Var.drew ?_) | (with_reducible refine M.Var.far ?_ _ _ ?hFar; case hFar => (first | omega | ((try simp [go_sem]) <;> omega))) | fail))) hb
  have q4_p_0 : w4.cell? ⟨w.heap.size, 0, none⟩ = some (.int .i64 1) := V4_p.c 0 _ rfl
  have q4_p_1 : w4.cell? ⟨w.heap.size, 1, none⟩ = some (.int .i64 4294967296) := V4_p.c 1 _ rfl
  have q4_p_2 : w4.cell? ⟨w.heap.size, 2, none⟩ = some (.int .i64 0) := V4_p.c 2 _ rfl
  have q4_p_3 : w4.cell? ⟨w.heap.size, 3, none⟩ = some (.int .i64 8589934592) := V4_p.c 3 _ rfl
  have q4_p_4 : w4.cell? ⟨w.heap.size, 4, none⟩ = some (.int .i64 0) := V4_p.c 4 _ rfl
  have q4_p_5 : w4.cell? ⟨w.heap.size, 5, none⟩ = some (.int .i64 0) := V4_p.c 5 _ rfl
  have q4_p_6 : w4.cell? ⟨w.heap.size, 6, none⟩ = some (.int .i64 17179869184) := V4_p.c 6 _ rfl
  have q4_p_7 : w4.cell? ⟨w.heap.size, 7, none⟩ = some (.int .i64 0) := V4_p.c 7 _ rfl
  have f4_p := V4_p.2.2; have L4_p := V4_p.lt; have N4_p := Nat.ne_of_gt L4_p; have M4_p := Nat.ne_of_lt L4_p
  have HV4_p := Lib.hid V4_p
  have q4_q_0 : w4.cell? ⟨w.heap.size + 1, 0, none⟩ = some (.int .i64 8589934592) := V4_q.c 0 _ rfl
  have q4_q_1 : w4.cell? ⟨w.heap.size + 1, 1, none⟩ = some (.int .i64 0) := V4_q.c 1 _ rfl
  have f4_q := V4_q.2.2; have L4_q := V4_q.lt; have N4_q := Nat.ne_of_gt L4_q; have M4_q := Nat.ne_of_lt L4_q
  have HV4_q := Lib.hid V4_q
  have q4_r_0 : w4.cell? ⟨w.heap.size + 1 + 1, 0, none⟩ = some (.int .i64 2147483648) := V4_r.c 0 _ rfl
  have f4_r := V4_r.2.2; have L4_r := V4_r.lt; have N4_r := Nat.ne_of_gt L4_r; have M4_r := Nat.ne_of_lt L4_r
  have HV4_r := Lib.hid V4_r
  have S4 := G4.size; clear hb
  go_wp2_with fail
  go_ret
  exact ⟨rfl, by (repeat (with_reducible refine M.Below.drewN ?_ _)); go_grown⟩
end Go.Proofs.Ytcaibieaobhheaa
