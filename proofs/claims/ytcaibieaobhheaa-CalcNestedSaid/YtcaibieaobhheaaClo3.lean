/- The closures of chapter 3, and that calc is alive. -/
import Derived.Test.YtcaibieaobhheaaSum
import Derived.Test.YtcaibieaobhheaaClo6
namespace Go.Proofs.Ytcaibieaobhheaa
open Go.RowKit M
set_option maxRecDepth 100000
set_option maxHeartbeats 4000000
set_option linter.unusedVariables false
set_option linter.unusedSimpArgs false
theorem row_var {w : World} {b : Nat} {xs : List Int} (h : Var w b (xs.map (Value.int .i64)).toArray) (hi : ∀ x ∈ xs, I64 x) : Row w (some ⟨b, 0, none⟩) xs := by
  intro i x hx
  refine ⟨b, 0, rfl, h.c _ _ ?_, hi x (List.mem_of_getElem? hx)⟩
  simp [hx]
theorem clo3_alive1 (p : Nat) (d : Value) (w : World) (hp : Var w p #[d]) :
    Calls Try.prog 87 #[.pointer (some ⟨p, 0, none⟩)] w fun e w' => e = outU 0 ∧ Below w.heap.size (sets w (usI p (.ok 8589934592))) w' := by
  have C1 := Lib.hid (fun w => (calcAdd_c 4294967296 4294967296 (i64_lit (by decide)) (i64_lit (by decide)) w).mono fun e w' h => (⟨h.1.trans rfl, h.2.bw⟩ : e = .returned (.int .i64 8589934592) ∧ Bw w w'))
  have HU := Lib.hid (show ∀ u ∈ usI p (.ok 8589934592), u.1.block < w.heap.size by
    intro u hu; rw [usI_block hu]; exact hp.lt)
  go_enter Try.func87, Try.ntmps87
  go_wp2_with fail
  (with_reducible refine (C1.out _).mono ?_); rintro en w1 ⟨rfl, hb⟩
  have G1 : Below w.heap.size w w1 := Below.trans (by (repeat (with_reducible refine M.Below.drewN ?_ _)); go_grown) (hb.mono (by go_size))
  have V1_p : M.Var w1 (p) #[d] := M.Var.mono (by (repeat (first | (with_reducible assumption) | (with_reducible apply M.var_set45) | (with_reducible refine M.var_alloc' _ _ _ ?_; first | rfl | (simp [go_sem]; done)) | (with_reducible refine M.Var.alloc ?_ _) | (with_reducible refine M.Var.drewN ?_ _) | (with_reducible refine M.Var.drew ?_) | (with_reducible refine M.Var.far ?_ _ _ ?hFar; case hFar => (first | omega | ((try simp [go_sem]) <;> omega))) | fail))) hb
  have q1_p_0 : w1.cell? ⟨p, 0, none⟩ = some (d) := V1_p.c 0 _ rfl
  have f1_p := V1_p.2.2; have L1_p := V1_p.lt; have N1_p := Nat.ne_of_gt L1_p; have M1_p := Nat.ne_of_lt L1_p
  have HV1_p := Lib.hid V1_p
  have S1 := G1.size; clear hb
  go_wp2_with fail
  exact bodyPost_end (v := .tuple #[]) (by first | rfl | kernel_rfl | simp [results, go_sem]) rfl ⟨rfl, M.below_sets _ (by assumption) HU.out⟩
theorem clo3_alive2 (w : World) : Calls Try.prog 88 #[] w fun e w' => e = outU 4 ∧ Bw w w' := by
  have C1 := Lib.hid (fun w => (calcDiv_c 4294967296 0 (i64_lit (by decide)) (i64_lit (by decide)) w).mono fun e w' h => (⟨h.1.trans rfl, h.2.bw⟩ : e = panics 4 ∧ Bw w w'))
  go_enter Try.func88, Try.ntmps88
  go_wp2_with fail
  (with_reducible refine (C1.out _).mono ?_); rintro en w1 ⟨rfl, hb⟩
  exact ⟨rfl, rfl, hb⟩
theorem sum123 (b : Nat) (w : World) (h : Var w b #[.int .i64 1, .int .i64 2, .int .i64 3]) :
    Calls Try.prog 89 #[.slice (some ⟨b, 0, none⟩) 3 3] w fun e w' => e = .returned (.tuple #[.int .i64 6, .int .i64 0]) ∧ Bw w w' :=
  sum_c [1, 2, 3] (some ⟨b, 0, none⟩) 3 w (row_var h (by intro x hx; simp at hx; rcases hx with rfl | rfl | rfl <;> exact i64_lit (by decide))) (by decide)
theorem sum2_c (b : Nat) (w : World) (x y : Int) (hx : I64 x) (hy : I64 y) (h : Var w b #[.int .i64 x, .int .i64 y]) :
    Calls Try.prog 89 #[.slice (some ⟨b, 0, none⟩) 2 2] w fun e w' => e = .returned (.tuple #[.int .i64 (sumE [x, y]).1, .int .i64 (sumE [x, y]).2]) ∧ Bw w w' :=
  sum_c [x, y] (some ⟨b, 0, none⟩) 2 w (row_var h (by intro z hz; simp at hz; rcases hz with rfl | rfl; exact hx; exact hy)) (by simp)
theorem alive3_c (w : World) : Calls Try.prog 39 #[] w fun e w' => e = .returned (.bool true) ∧ Bw w w' := by
  go_enter Try.func39, Try.ntmps39
  go_wp2_with fail
  refine (try_c 87 #[.pointer (some ⟨w.heap.size, 0, none⟩)] _ (0) (usI w.heap.size (.ok 8589934592)) (fun _ => rfl) ?_ ?_).mono ?_
  · intro u hu; (try simp only [List.mem_append] at hu); (repeat' (obtain hu | hu := (hu : _ ∨ _))); all_goals (first | rw [M.usBx_block hu] | rw [M.usV_block hu] | rw [M.usI_block hu] | rw [M.usHt_block hu] | rw [M.usBd_block hu] | rw [M.usB_block hu] | rw [M.cell_block1 hu] | (exfalso; simp at hu; done)); all_goals ((try simp [go_sem]) <;> omega)
  · intro w1' hb; exact (clo3_alive1 _ _ w1' (M.Var.mono (b := w.heap.size) (cs := #[.int .i64 0]) (by (repeat (first | (with_reducible assumption) | (with_reducible apply M.var_set45) | (with_reducible refine M.var_alloc' _ _ _ ?_; first | rfl | (simp [go_sem]; done)) | (with_reducible refine M.Var.alloc ?_ _) | (with_reducible refine M.Var.drewN ?_ _) | (with_reducible refine M.Var.drew ?_) | (with_reducible refine M.Var.far ?_ _ _ ?hFar; case hFar => (first | omega | ((try simp [go_sem]) <;> omega))) | fail))) hb)).mono fun e w' h => h
  rintro en w1 ⟨rfl, hb⟩
  have G1 : Below w.heap.size w w1 := Below.trans (M.below_sets_own (usI w.heap.size (.ok 8589934592)) (by (repeat (with_reducible refine M.Below.drewN ?_ _)); go_grown) (by intro u hu; (try simp only [List.mem_append] at hu); (repeat' (obtain hu | hu := (hu : _ ∨ _))); all_goals (first | rw [M.usBx_block hu] | rw [M.usV_block hu] | rw [M.usI_block hu] | rw [M.usHt_block hu] | rw [M.usBd_block hu] | rw [M.usB_block hu] | rw [M.cell_block1 hu] | (exfalso; simp at hu; done)); all_goals ((try simp [go_sem]) <;> omega))) (hb.mono (by go_size))
  have V1_x : M.Var w1 (w.heap.size) #[.int .i64 8589934592] := M.Var.mono' (u := M.sets _ (usI w.heap.size (.ok 8589934592))) (by (try simp only [M.sets_append]); exact (M.var_setI (by (repeat (first | (with_reducible assumption) | (with_reducible apply M.var_set45) | (with_reducible refine M.var_alloc' _ _ _ ?_; first | rfl | (simp [go_sem]; done)) | (with_reducible refine M.Var.alloc ?_ _) | (with_reducible refine M.Var.drewN ?_ _) | (with_reducible refine M.Var.drew ?_) | (with_reducible refine M.Var.far ?_ _ _ ?hFar; case hFar => (first | omega | ((try simp [go_sem]) <;> omega))) | fail)) : M.Var _ (w.heap.size) #[.int .i64 0]) _)) (M.sets_size _ _) hb
  have q1_x_0 : w1.cell? ⟨w.heap.size, 0, none⟩ = some (.int .i64 8589934592) := V1_x.c 0 _ rfl
  have f1_x := V1_x.2.2; have L1_x := V1_x.lt; have N1_x := Nat.ne_of_gt L1_x; have M1_x := Nat.ne_of_lt L1_x
  have HV1_x := Lib.hid V1_x
  have S1 := G1.size; clear hb
  go_wp2_with fail
  refine (try_c 88 #[] _ (4) ([]) (fun _ => rfl) ?_ ?_).mono ?_
  · intro u hu; (try simp only [List.mem_append] at hu); (repeat' (obtain hu | hu := (hu : _ ∨ _))); all_goals (first | rw [M.usBx_block hu] | rw [M.usV_block hu] | rw [M.usI_block hu] | rw [M.usHt_block hu] | rw [M.usBd_block hu] | rw [M.usB_block hu] | rw [M.cell_block1 hu] | (exfalso; simp at hu; done)); all_goals ((try simp [go_sem]) <;> omega)
  · intro w1' hb; exact (clo3_alive2 w1').mono fun e w' h => h
  rintro en w2 ⟨rfl, hb⟩
  have G2 : Below w.heap.size w w2 := Below.trans (M.below_sets_own ([]) (by (repeat (with_reducible refine M.Below.drewN ?_ _)); go_grown) (by intro u hu; (try simp only [List.mem_append] at hu); (repeat' (obtain hu | hu := (hu : _ ∨ _))); all_goals (first | rw [M.usBx_block hu] | rw [M.usV_block hu] | rw [M.usI_block hu] | rw [M.usHt_block hu] | rw [M.usBd_block hu] | rw [M.usB_block hu] | rw [M.cell_block1 hu] | (exfalso; simp at hu; done)); all_goals ((try simp [go_sem]) <;> omega))) (hb.mono (by go_size))
  have V2_x : M.Var w2 (w.heap.size) #[.int .i64 8589934592] := M.Var.mono' (u := M.sets _ ([])) (by (try simp only [M.sets_append]); exact (M.var_sets_far ([]) (by (repeat (first | (with_reducible assumption) | (with_reducible apply M.var_set45) | (with_reducible refine M.var_alloc' _ _ _ ?_; first | rfl | (simp [go_sem]; done)) | (with_reducible refine M.Var.alloc ?_ _) | (with_reducible refine M.Var.drewN ?_ _) | (with_reducible refine M.Var.drew ?_) | (with_reducible refine M.Var.far ?_ _ _ ?hFar; case hFar => (first | omega | ((try simp [go_sem]) <;> omega))) | fail)) : M.Var _ (w.heap.size) #[.int .i64 8589934592]) (by intro u hu; all_goals (first | rw [M.usBx_block hu] | rw [M.usV_block hu] | rw [M.usI_block hu] | rw [M.usHt_block hu] | rw [M.usBd_block hu] | rw [M.usB_block hu] | rw [M.cell_block1 hu] | (exfalso; simp at hu; done)); all_goals ((try simp [go_sem]) <;> omega)))) (M.sets_size _ _) hb
  have q2_x_0 : w2.cell? ⟨w.heap.size, 0, none⟩ = some (.int .i64 8589934592) := V2_x.c 0 _ rfl
  have f2_x := V2_x.2.2; have L2_x := V2_x.lt; have N2_x := Nat.ne_of_gt L2_x; have M2_x := Nat.ne_of_lt L2_x
  have HV2_x := Lib.hid V2_x
  have S2 := G2.size; clear hb
  go_wp2_with fail
  (with_reducible refine (sum123 _ _ (M.var_alloc' _ _ _ rfl)).mono ?_); rintro en w3 ⟨rfl, hb⟩
  have G3 : Below w.heap.size w w3 := Below.trans (by (repeat (with_reducible refine M.Below.drewN ?_ _)); go_grown) (hb.mono (by go_size))
  have V3_x : M.Var w3 (w.heap.size) #[.int .i64 8589934592] := M.Var.mono (by (repeat (first | (with_reducible assumption) | (with_reducible apply M.var_set45) | (with_reducible refine M.var_alloc' _ _ _ ?_; first | rfl | (simp [go_sem]; done)) | (with_reducible refine M.Var.alloc ?_ _) | (with_reducible refine M.Var.drewN ?_ _) | (with_reducible refine M.Var.drew ?_) | (with_reducible refine M.Var.far ?_ _ _ ?hFar; case hFar => (first | omega | ((try simp [go_sem]) <;> omega))) | fail))) hb
  have q3_x_0 : w3.cell? ⟨w.heap.size, 0, none⟩ = some (.int .i64 8589934592) := V3_x.c 0 _ rfl
  have f3_x := V3_x.2.2; have L3_x := V3_x.lt; have N3_x := Nat.ne_of_gt L3_x; have M3_x := Nat.ne_of_lt L3_x
  have HV3_x := Lib.hid V3_x
  have S3 := G3.size; clear hb
  go_wp2_with fail
  go_ret
  exact ⟨rfl, by (repeat (with_reducible refine M.Below.drewN ?_ _)); go_grown⟩
end Go.Proofs.Ytcaibieaobhheaa
