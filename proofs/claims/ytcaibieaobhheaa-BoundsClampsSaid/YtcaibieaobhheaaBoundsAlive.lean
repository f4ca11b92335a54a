/- The laws of chapter 8 first ask whether bounds is alive: it is. And what the closures of this chapter's laws do. -/
import Derived.Test.YtcaibieaobhheaaVar
import Derived.Test.YtcaibieaobhheaaBounds
import Derived.Test.YtcaibieaobhheaaTouchMath
namespace Go.Proofs.Ytcaibieaobhheaa
open Go.RowKit M
set_option maxRecDepth 100000
set_option maxHeartbeats 4000000
set_option linter.unusedVariables false
set_option linter.unusedSimpArgs false
theorem clo8_alive (p : Nat) (d0 d1 d2 d3 : Value) (w : World) (hp : Var w p #[d0, d1, d2, d3]) :
    Calls Try.prog 91 #[.pointer (some ⟨p, 0, none⟩)] w fun e w' => e = outU 0 ∧ Below w.heap.size (sets w (usBx p (.ok ⟨-4294967296, -4294967296, 4294967296, 4294967296⟩))) w' := by
  have c := boundsOf_x ⟨1, 4294967296, 0, 0, 0, 0, 0, 0⟩ ⟨i64_lit (by decide), i64_lit (by decide), i64_lit (by decide), i64_lit (by decide), i64_lit (by decide), i64_lit (by decide), i64_lit (by decide), i64_lit (by decide)⟩
  have e : boxX ⟨1, 4294967296, 0, 0, 0, 0, 0, 0⟩ = .ok ⟨-4294967296, -4294967296, 4294967296, 4294967296⟩ := by rfl
  rw [e] at c
  have C := Lib.hid c
  have HP := Lib.hid hp
  clear c e hp
  go_enter Try.func91, Try.ntmps91
  go_wp2_with fail
  (with_reducible refine (C.out _).mono ?_); rintro en w1 ⟨ho, hb⟩
  have V := HP.out.mono hb
  have HB := Lib.hid (M.below_sets (usBx p (.ok ⟨-4294967296, -4294967296, 4294967296, 4294967296⟩)) hb (by simp [usBx, HP.out.lt]))
  clear hb
  rcases ho with ⟨n, hn, _, rfl⟩ | ⟨q, hq, _, rfl⟩
  · cases hn
  obtain rfl := Except.ok.inj hq
  have q0 := V.c 0 _ rfl; have q1 := V.c 1 _ rfl; have q2 := V.c 2 _ rfl; have q3 := V.c 3 _ rfl
  have hf := V.2.2
  clear V hq
  go_wp2_with fail
  exact bodyPost_end (v := .tuple #[]) (by first | rfl | kernel_rfl | simp [results, go_sem]) rfl ⟨rfl, HB.out⟩
theorem field_x (x y : Int) (w : World) : (Instr.field 24 (.agg #[.int .i64 x, .int .i64 y]) 0).run Try.prog w = .ok (.int .i64 x) w := by kernel_rfl
theorem field_y (x y : Int) (w : World) : (Instr.field 24 (.agg #[.int .i64 x, .int .i64 y]) 1).run Try.prog w = .ok (.int .i64 y) w := by kernel_rfl
theorem alive8_c (w : World) : Calls Try.prog 48 #[] w fun e w' => e = .returned (.bool true) ∧ Bw w w' := by
  have c1 := meet_x ⟨-4294967296, -4294967296, 4294967296, 4294967296⟩ ⟨-4294967296, -4294967296, 4294967296, 4294967296⟩
  have c2 := in_bx_x 0 0 ⟨-4294967296, -4294967296, 4294967296, 4294967296⟩
  have c3 := clampV_x 38654705664 0 ⟨-4294967296, -4294967296, 4294967296, 4294967296⟩
  rw [show meetB ⟨-4294967296, -4294967296, 4294967296, 4294967296⟩ ⟨-4294967296, -4294967296, 4294967296, 4294967296⟩ = true by decide] at c1
  rw [show inBx (0, 0) ⟨-4294967296, -4294967296, 4294967296, 4294967296⟩ = true by decide] at c2
  dsimp only at c3
  rw [show clampI 38654705664 (-4294967296) 4294967296 = 4294967296 by decide, show clampI 0 (-4294967296) 4294967296 = 0 by decide] at c3
  have C1 := Lib.hid c1; have C2 := Lib.hid c2; have C3 := Lib.hid c3
  clear c1 c2 c3
  have fx := field_x
  go_enter Try.func48, Try.ntmps48
  go_wp2_with fail
  refine (try_c 91 #[.pointer (some ⟨w.heap.size, 0, none⟩)] _ (0) (usBx w.heap.size (.ok ⟨-4294967296, -4294967296, 4294967296, 4294967296⟩)) (fun _ => rfl) ?_ ?_).mono ?_
  · intro u hu; (try simp only [List.mem_append] at hu); (repeat' (obtain hu | hu := (hu : _ ∨ _))); all_goals (first | rw [M.usBx_block hu] | rw [M.usV_block hu] | rw [M.usI_block hu] | rw [M.usHt_block hu] | rw [M.usBd_block hu] | rw [M.usB_block hu] | rw [M.cell_block1 hu] | (exfalso; simp at hu; done)); all_goals ((try simp [go_sem]) <;> omega)
  · intro w1' hb; exact (clo8_alive _ _ _ _ _ w1' (M.Var.mono (b := w.heap.size) (cs := #[.int .i64 0, .int .i64 0, .int .i64 0, .int .i64 0]) (by (repeat (first | (with_reducible assumption) | (with_reducible apply M.var_set45) | (with_reducible refine M.var_alloc' _ _ _ ?_; first | rfl | (simp [go_sem]; done)) | (with_reducible refine M.Var.alloc ?_ _) | (with_reducible refine M.Var.drewN ?_ _) | (with_reducible refine M.Var.drew ?_) | (with_reducible refine M.Var.far ?_ _ _ ?hFar; case hFar => (first | omega | ((try simp [go_sem]) <;> omega))) | fail))) hb)).mono fun e w' h => h
  rintro en w1 ⟨rfl, hb⟩
  have G1 : Below w.heap.size w w1 := Below.trans (M.below_sets_own (usBx w.heap.size (.ok ⟨-4294967296, -4294967296, 4294967296, 4294967296⟩)) (by (repeat (with_reducible refine M.Below.drewN ?_ _)); go_grown) (by intro u hu; (try simp only [List.mem_append] at hu); (repeat' (obtain hu | hu := (hu : _ ∨ _))); all_goals (first | rw [M.usBx_block hu] | rw [M.usV_block hu] | rw [M.usI_block hu] | rw [M.usHt_block hu] | rw [M.usBd_block hu] | rw [M.usB_block hu] | rw [M.cell_block1 hu] | (exfalso; simp at hu; done)); all_goals ((try simp [go_sem]) <;> omega))) (hb.mono (by go_size))
  have V1_b : M.Var w1 (w.heap.size) #[.int .i64 (-4294967296), .int .i64 (-4294967296), .int .i64 4294967296, .int .i64 4294967296] := M.Var.mono' (u := M.sets _ (usBx w.heap.size (.ok ⟨-4294967296, -4294967296, 4294967296, 4294967296⟩))) (by (try simp only [M.sets_append]); exact (M.var_setBx (by (repeat (first | (with_reducible assumption) | (with_reducible apply M.var_set45) | (with_reducible refine M.var_alloc' _ _ _ ?_; first | rfl | (simp [go_sem]; done)) | (with_reducible refine M.Var.alloc ?_ _) | (with_reducible refine M.Var.drewN ?_ _) | (with_reducible refine M.Var.drew ?_) | (with_reducible refine M.Var.far ?_ _ _ ?hFar; case hFar => (first | omega | ((try simp [go_sem]) <;> omega))) | fail)) : M.Var _ (w.heap.size) #[.int .i64 0, .int .i64 0, .int .i64 0, .int .i64 0]) _ _ _ _)) (M.sets_size _ _) hb
  have q1_b_0 : w1.cell? ⟨w.heap.size, 0, none⟩ = some (.int .i64 (-4294967296)) := V1_b.c 0 _ rfl
  have q1_b_1 : w1.cell? ⟨w.heap.size, 1, none⟩ = some (.int .i64 (-4294967296)) := V1_b.c 1 _ rfl
  have q1_b_2 : w1.cell? ⟨w.heap.size, 2, none⟩ = some (.int .i64 4294967296) := V1_b.c 2 _ rfl
  have q1_b_3 : w1.cell? ⟨w.heap.size, 3, none⟩ = some (.int .i64 4294967296) := V1_b.c 3 _ rfl
  have f1_b := V1_b.2.2; have L1_b := V1_b.lt; have N1_b := Nat.ne_of_gt L1_b; have M1_b := Nat.ne_of_lt L1_b
  have HV1_b := Lib.hid V1_b
  have S1 := G1.size; clear hb
  go_wp2_with fail
  (with_reducible refine (C1.out _).mono ?_); rintro en w2 ⟨rfl, hb⟩
  have G2 : Below w.heap.size w w2 := Below.trans (by (repeat (with_reducible refine M.Below.drewN ?_ _)); go_grown) (hb.mono (by go_size))
  have V2_b : M.Var w2 (w.heap.size) #[.int .i64 (-4294967296), .int .i64 (-4294967296), .int .i64 4294967296, .int .i64 4294967296] := M.Var.mono (by (repeat (first | (with_reducible assumption) | (with_reducible apply M.var_set45) | (with_reducible refine M.var_alloc' _ _ _ ?_; first | rfl | (simp [go_sem]; done)) | (with_reducible refine M.Var.alloc ?_ _) | (with_reducible refine M.Var.drewN ?_ _) | (with_reducible refine M.Var.drew ?_) | (with_reducible refine M.Var.far ?_ _ _ ?hFar; case hFar => (first | omega | ((try simp [go_sem]) <;> omega))) | fail))) hb
  have q2_b_0 : w2.cell? ⟨w.heap.size, 0, none⟩ = some (.int .i64 (-4294967296)) := V2_b.c 0 _ rfl
  have q2_b_1 : w2.cell? ⟨w.heap.size, 1, none⟩ = some (.int .i64 (-4294967296)) := V2_b.c 1 _ rfl
  have q2_b_2 : w2.cell? ⟨w.heap.size, 2, none⟩ = some (.int .i64 4294967296) := V2_b.c 2 _ rfl
  have q2_b_3 : w2.cell? ⟨w.heap.size, 3, none⟩ = some (.int .i64 4294967296) := V2_b.c 3 _ rfl
  have f2_b := V2_b.2.2; have L2_b := V2_b.lt; have N2_b := Nat.ne_of_gt L2_b; have M2_b := Nat.ne_of_lt L2_b
  have HV2_b := Lib.hid V2_b
  have S2 := G2.size; clear hb
  go_wp2_with fail
  (with_reducible refine (C2.out _).mono ?_); rintro en w3 ⟨rfl, hb⟩
  have G3 : Below w.heap.size w w3 := Below.trans (by (repeat (with_reducible refine M.Below.drewN ?_ _)); go_grown) (hb.mono (by go_size))
  have V3_b : M.Var w3 (w.heap.size) #[.int .i64 (-4294967296), .int .i64 (-4294967296), .int .i64 4294967296, .int .i64 4294967296] := M.Var.mono (by (repeat (first | (with_reducible assumption) | (with_reducible apply M.var_set45) | (with_reducible refine M.var_alloc' _ _ _ ?_; first | rfl | (simp [go_sem]; done)) | (with_reducible refine M.Var.alloc ?_ _) | (with_reducible refine M.Var.drewN ?_ _) | (with_reducible refine M.Var.drew ?_) | (with_reducible refine M.Var.far ?_ _ _ ?hFar; case hFar => (first | omega | ((try simp [go_sem]) <;> omega))) | fail))) hb
  have q3_b_0 : w3.cell? ⟨w.heap.size, 0, none⟩ = some (.int .i64 (-4294967296)) := V3_b.c 0 _ rfl
  have q3_b_1 : w3.cell? ⟨w.heap.size, 1, none⟩ = some (.int .i64 (-4294967296)) := V3_b.c 1 _ rfl
  have q3_b_2 : w3.cell? ⟨w.heap.size, 2, none⟩ = some (.int .i64 4294967296) := V3_b.c 2 _ rfl
  have q3_b_3 : w3.cell? ⟨w.heap.size, 3, none⟩ = some (.int .i64 4294967296) := V3_b.c 3 _ rfl
  have f3_b := V3_b.2.2; have L3_b := V3_b.lt; have N3_b := Nat.ne_of_gt L3_b; have M3_b := Nat.ne_of_lt L3_b
  have HV3_b := Lib.hid V3_b
  have S3 := G3.size; clear hb
  go_wp2_with fail
  (with_reducible refine (C3.out _).mono ?_); rintro en w4 ⟨rfl, hb⟩
  have G4 : Below w.heap.size w w4 := Below.trans (by (repeat (with_reducible refine M.Below.drewN ?_ _)); go_grown) (hb.mono (by go_size))
  have V4_b : M.Var w4 (w.heap.size) #[.int .i64 (-4294967296), .int .i64 (-4294967296), .int .i64 4294967296, .int .i64 4294967296] := M.Var.mono (by (repeat (first | (with_reducible assumption) | (with_reducible apply M.var_set45) | (with_reducible refine M.var_alloc' _ _ _ ?_; first | rfl | (simp [go_sem]; done)) | (with_reducible refine M.Var.alloc ?_ _) | (with_reducible refine M.Var.drewN ?_ _) | (with_reducible refine M.Var.drew ?_) | (with_reducible refine M.Var.far ?_ _ _ ?hFar; case hFar => (first | omega | ((try simp [go_sem]) <;> omega))) | fail))) hb
  have q4_b_0 : w4.cell? ⟨w.heap.size, 0, none⟩ = some (.int .i64 (-4294967296)) := V4_b.c 0 _ rfl
  have q4_b_1 : w4.cell? ⟨w.heap.size, 1, none⟩ = some (.int .i64 (-4294967296)) := V4_b.c 1 _ rfl
  have q4_b_2 : w4.cell? ⟨w.heap.size, 2, none⟩ = some (.int .i64 4294967296) := V4_b.c 2 _ rfl
  have q4_b_3 : w4.cell? ⟨w.heap.size, 3, none⟩ = some (.int .i64 4294967296) := V4_b.c 3 _ rfl
  have f4_b := V4_b.2.2; have L4_b := V4_b.lt; have N4_b := Nat.ne_of_gt L4_b; have M4_b := Nat.ne_of_lt L4_b
  have HV4_b := Lib.hid V4_b
  have S4 := G4.size; clear hb
  go_wp2_with fail
  go_ret
  exact ⟨rfl, by (repeat (with_reducible refine M.Below.drewN ?_ _)); go_grown⟩
end Go.Proofs.Ytcaibieaobhheaa
