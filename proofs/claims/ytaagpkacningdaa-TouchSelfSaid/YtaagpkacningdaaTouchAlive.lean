/- The laws of chapter 10 first ask whether touch is alive: it is. -/
import Derived.Test.YtaagpkacningdaaClo10
import Derived.Test.YtaagpkacningdaaTouchMath
namespace Go.Proofs.Ytaagpkacningdaa
open Go.RowKit M
set_option maxRecDepth 100000
set_option maxHeartbeats 4000000
set_option linter.unusedVariables false
set_option linter.unusedSimpArgs false
def a10 : Bd := ⟨1, 4294967296, 0, 0, 0, 0, 0, 0⟩
def b10 : Bd := ⟨1, 4294967296, 0, 0, 6442450944, 0, 0, 0⟩
theorem a10_ok : a10.ok := ⟨i64_lit (by decide), i64_lit (by decide), i64_lit (by decide), i64_lit (by decide), i64_lit (by decide), i64_lit (by decide), i64_lit (by decide), i64_lit (by decide)⟩
theorem b10_ok : b10.ok := ⟨i64_lit (by decide), i64_lit (by decide), i64_lit (by decide), i64_lit (by decide), i64_lit (by decide), i64_lit (by decide), i64_lit (by decide), i64_lit (by decide)⟩
theorem hit10 : hitX a10 b10 = .ok (⟨4294967296, 0, 2147483648⟩, true) := by
  rw [hitX_lo (by unfold Lo a10; dsimp only; omega) (by unfold Lo b10; dsimp only; omega)]
  have e : dV a10 b10 = (6442450944, 0) := rfl
  unfold hitV
  rw [if_pos ⟨rfl, rfl⟩]
  unfold ballsV
  rw [e, nrm_x (by omega) (by omega), uV_x (by omega) (by omega), if_neg (by omega)]
  rfl
theorem alive10_c (w : World) : Calls Try.prog 132 #[] w fun e w' => e = .returned (.bool true) ∧ Bw w w' := by
  go_enter Try.func132, Try.ntmps132
  go_wp2_with fail
  refine (try_c 183 #[.pointer (some ⟨w.heap.size, 0, none⟩), .pointer (some ⟨w.heap.size + 1, 0, none⟩), .pointer (some ⟨w.heap.size + 1 + 1, 0, none⟩), .pointer (some ⟨w.heap.size + 1 + 1 + 1, 0, none⟩)] _ (0) (usHt (w.heap.size + 1 + 1) (fstX (.ok (⟨4294967296, 0, 2147483648⟩, true))) ++ usB (w.heap.size + 1 + 1 + 1) (sndX (.ok ((⟨4294967296, 0, 2147483648⟩ : Ht), true)))) (fun _ => rfl) ?_ ?_).mono ?_
  · intro u hu; (try simp only [List.mem_append] at hu); (repeat' (obtain hu | hu := (hu : _ ∨ _))); all_goals (first | rw [M.usBx_block hu] | rw [M.usV_block hu] | rw [M.usI_block hu] | rw [M.usHt_block hu] | rw [M.usBd_block hu] | rw [M.usB_block hu] | rw [M.cell_block1 hu] | (exfalso; simp at hu; done)); all_goals ((try simp [go_sem]) <;> omega)
  · intro w1' hb; exact (cloHitA _ _ _ _ a10 a10_ok b10 b10_ok _ _ _ _ (.ok (⟨4294967296, 0, 2147483648⟩, true)) hit10 w1' (M.Var.mono (b := w.heap.size) (cs := #[.int .i64 1, .int .i64 4294967296, .int .i64 0, .int .i64 0, .int .i64 0, .int .i64 0, .int .i64 0, .int .i64 0]) (by (repeat (first | (with_reducible assumption) | (refine M.var_alloc' _ _ _ ?_; first | rfl | (simp [go_sem]; done)) | (with_reducible refine M.Var.alloc ?_ _) | (with_reducible refine M.Var.drewN ?_ _) | (with_reducible refine M.Var.drew ?_) | (with_reducible refine M.Var.far ?_ _ _ ?hFar; case hFar => (first | omega | ((try simp [go_sem]) <;> omega))) | fail))) hb) (M.Var.mono (b := w.heap.size + 1) (cs := #[.int .i64 1, .int .i64 4294967296, .int .i64 0, .int .i64 0, .int .i64 6442450944, .int .i64 0, .int .i64 0, .int .i64 0]) (by (repeat (first | (with_reducible assumption) | (refine M.var_alloc' _ _ _ ?_; first | rfl | (simp [go_sem]; done)) | (with_reducible refine M.Var.alloc ?_ _) | (with_reducible refine M.Var.drewN ?_ _) | (with_reducible refine M.Var.drew ?_) | (with_reducible refine M.Var.far ?_ _ _ ?hFar; case hFar => (first | omega | ((try simp [go_sem]) <;> omega))) | fail))) hb) (M.Var.mono (b := w.heap.size + 1 + 1) (cs := #[.int .i64 0, .int .i64 0, .int .i64 0]) (by (repeat (first | (with_reducible assumption) | (refine M.var_alloc' _ _ _ ?_; first | rfl | (simp [go_sem]; done)) | (with_reducible refine M.Var.alloc ?_ _) | (with_reducible refine M.Var.drewN ?_ _) | (with_reducible refine M.Var.drew ?_) | (with_reducible refine M.Var.far ?_ _ _ ?hFar; case hFar => (first | omega | ((try simp [go_sem]) <;> omega))) | fail))) hb) (M.Var.mono (b := w.heap.size + 1 + 1 + 1) (cs := #[.bool false]) (by (repeat (first | (with_reducible assumption) | (refine M.var_alloc' _ _ _ ?_; first | rfl | (simp [go_sem]; done)) | (with_reducible refine M.Var.alloc ?_ _) | (with_reducible refine M.Var.drewN ?_ _) | (with_reducible refine M.Var.drew ?_) | (with_reducible refine M.Var.far ?_ _ _ ?hFar; case hFar => (first | omega | ((try simp [go_sem]) <;> omega))) | fail))) hb) (by omega)).mono fun e w' h => h
  rintro en w1 ⟨rfl, hb⟩
  have G1 : Below w.heap.size w w1 := Below.trans (M.below_sets_own (usHt (w.heap.size + 1 + 1) (fstX (.ok (⟨4294967296, 0, 2147483648⟩, true))) ++ usB (w.heap.size + 1 + 1 + 1) (sndX (.ok ((⟨4294967296, 0, 2147483648⟩ : Ht), true)))) (by (repeat (with_reducible refine M.Below.drewN ?_ _)); go_grown) (by intro u hu; (try simp only [List.mem_append] at hu); (repeat' (obtain hu | hu := (hu : _ ∨ _))); all_goals (first | rw [M.usBx_block hu] | rw [M.usV_block hu] | rw [M.usI_block hu] | rw [M.usHt_block hu] | rw [M.usBd_block hu] | rw [M.usB_block hu] | rw [M.cell_block1 hu] | (exfalso; simp at hu; done)); all_goals ((try simp [go_sem]) <;> omega))) (hb.mono (by go_size))
  have V1_a : M.Var w1 (w.heap.size) #[.int .i64 1, .int .i64 4294967296, .int .i64 0, .int .i64 0, .int .i64 0, .int .i64 0, .int .i64 0, .int .i64 0] := M.Var.mono' (u := M.sets _ (usHt (w.heap.size + 1 + 1) (fstX (.ok (⟨4294967296, 0, 2147483648⟩, true))) ++ usB (w.heap.size + 1 + 1 + 1) (sndX (.ok ((⟨4294967296, 0, 2147483648⟩ : Ht), true))))) (by (try simp only [M.sets_append]); exact (M.var_sets_far (usB (w.heap.size + 1 + 1 + 1) (sndX (.ok ((⟨4294967296, 0, 2147483648⟩ : Ht), true)))) (M.var_sets_far (usHt (w.heap.size + 1 + 1) (fstX (.ok (⟨4294967296, 0, 2147483648⟩, true)))) (by (repeat (first | (with_reducible assumption) | (refine M.var_alloc' _ _ _ ?_; first | rfl | (simp [go_sem]; done)) | (with_reducible refine M.Var.alloc ?_ _) | (with_reducible refine M.Var.drewN ?_ _) | (with_reducible refine M.Var.drew ?_) | (with_reducible refine M.Var.far ?_ _ _ ?hFar; case hFar => (first | omega | ((try simp [go_sem]) <;> omega))) | fail)) : M.Var _ (w.heap.size) #[.int .i64 1, .int .i64 4294967296, .int .i64 0, .int .i64 0, .int .i64 0, .int .i64 0, .int .i64 0, .int .i64 0]) (by intro u hu; all_goals (first | rw [M.usBx_block hu] | rw [M.usV_block hu] | rw [M.usI_block hu] | rw [M.usHt_block hu] | rw [M.usBd_block hu] | rw [M.usB_block hu] | rw [M.cell_block1 hu] | (exfalso; simp at hu; done)); all_goals ((try simp [go_sem]) <;> omega))) (by intro u hu; all_goals (first | rw [M.usBx_block hu] | rw [M.usV_block hu] | rw [M.usI_block hu] | rw [M.usHt_block hu] | rw [M.usBd_block hu] | rw [M.usB_block hu] | rw [M.cell_block1 hu] | (exfalso; simp at hu; done)); all_goals ((try simp [go_sem]) <;> omega)))) (M.sets_size _ _) hb
  have V1_b : M.Var w1 (w.heap.size + 1) #[.int .i64 1, .int .i64 4294967296, .int .i64 0, .int .i64 0, .int .i64 6442450944, .int .i64 0, .int .i64 0, .int .i64 0] := M.Var.mono' (u := M.sets _ (usHt (w.heap.size + 1 + 1) (fstX (.ok (⟨4294967296, 0, 2147483648⟩, true))) ++ usB (w.heap.size + 1 + 1 + 1) (sndX (.ok ((⟨4294967296, 0, 2147483648⟩ : Ht), true))))) (by (try simp only [M.sets_append]); exact (M.var_sets_far (usB (w.heap.size + 1 + 1 + 1) (sndX (.ok ((⟨4294967296, 0, 2147483648⟩ : Ht), true)))) (M.var_sets_far (usHt (w.heap.size + 1 + 1) (fstX (.ok (⟨4294967296, 0, 2147483648⟩, true)))) (by (repeat (first | (with_reducible assumption) | (refine M.var_alloc' _ _ _ ?_; first | rfl | (simp [go_sem]; done)) | (with_reducible refine M.Var.alloc ?_ _) | (with_reducible refine M.Var.drewN ?_ _) | (with_reducible refine M.Var.drew ?_) | (with_reducible refine M.Var.far ?_ _ _ ?hFar; case hFar => (first | omega | ((try simp [go_sem]) <;> omega))) | fail)) : M.Var _ (w.heap.size + 1) #[.int .i64 1, .int .i64 4294967296, .int .i64 0, .int .i64 0, .int .i64 6442450944, .int .i64 0, .int .i64 0, .int .i64 0]) (by intro u hu; all_goals (first | rw [M.usBx_block hu] | rw [M.usV_block hu] | rw [M.usI_block hu] | rw [M.usHt_block hu] | rw [M.usBd_block hu] | rw [M.usB_block hu] | rw [M.cell_block1 hu] | (exfalso; simp at hu; done)); all_goals ((try simp [go_sem]) <;> omega))) (by intro u hu; all_goals (first | rw [M.usBx_block hu] | rw [M.usV_block hu] | rw [M.usI_block hu] | rw [M.usHt_block hu] | rw [M.usBd_block hu] | rw [M.usB_block hu] | rw [M.cell_block1 hu] | (exfalso; simp at hu; done)); all_goals ((try simp [go_sem]) <;> omega)))) (M.sets_size _ _) hb
  have V1_h : M.Var w1 (w.heap.size + 1 + 1) #[.int .i64 4294967296, .int .i64 0, .int .i64 2147483648] := M.Var.mono' (u := M.sets _ (usHt (w.heap.size + 1 + 1) (fstX (.ok (⟨4294967296, 0, 2147483648⟩, true))) ++ usB (w.heap.size + 1 + 1 + 1) (sndX (.ok ((⟨4294967296, 0, 2147483648⟩ : Ht), true))))) (by (try simp only [M.sets_append]); exact (M.var_sets_far (usB (w.heap.size + 1 + 1 + 1) (sndX (.ok ((⟨4294967296, 0, 2147483648⟩ : Ht), true)))) (M.var_setHt (by (repeat (first | (with_reducible assumption) | (refine M.var_alloc' _ _ _ ?_; first | rfl | (simp [go_sem]; done)) | (with_reducible refine M.Var.alloc ?_ _) | (with_reducible refine M.Var.drewN ?_ _) | (with_reducible refine M.Var.drew ?_) | (with_reducible refine M.Var.far ?_ _ _ ?hFar; case hFar => (first | omega | ((try simp [go_sem]) <;> omega))) | fail)) : M.Var _ (w.heap.size + 1 + 1) #[.int .i64 0, .int .i64 0, .int .i64 0]) _ _ _) (by intro u hu; all_goals (first | rw [M.usBx_block hu] | rw [M.usV_block hu] | rw [M.usI_block hu] | rw [M.usHt_block hu] | rw [M.usBd_block hu] | rw [M.usB_block hu] | rw [M.cell_block1 hu] | (exfalso; simp at hu; done)); all_goals ((try simp [go_sem]) <;> omega)))) (M.sets_size _ _) hb
  have V1_k : M.Var w1 (w.heap.size + 1 + 1 + 1) #[.bool true] := M.Var.mono' (u := M.sets _ (usHt (w.heap.size + 1 + 1) (fstX (.ok (⟨4294967296, 0, 2147483648⟩, true))) ++ usB (w.heap.size + 1 + 1 + 1) (sndX (.ok ((⟨4294967296, 0, 2147483648⟩ : Ht), true))))) (by (try simp only [M.sets_append]); exact (M.var_setB (M.var_sets_far (usHt (w.heap.size + 1 + 1) (fstX (.ok (⟨4294967296, 0, 2147483648⟩, true)))) (by (repeat (first | (with_reducible assumption) | (refine M.var_alloc' _ _ _ ?_; first | rfl | (simp [go_sem]; done)) | (with_reducible refine M.Var.alloc ?_ _) | (with_reducible refine M.Var.drewN ?_ _) | (with_reducible refine M.Var.drew ?_) | (with_reducible refine M.Var.far ?_ _ _ ?hFar; case hFar => (first | omega | ((try simp [go_sem]) <;> omega))) | fail)) : M.Var _ (w.heap.size + 1 + 1 + 1) #[.bool false]) (by intro u hu; all_goals (first | rw [M.usBx_block hu] | rw [M.usV_block hu] | rw [M.usI_block hu] | rw [M.usHt_block hu] | rw [M.usBd_block hu] | rw [M.usB_block hu] | rw [M.cell_block1 hu] | (exfalso; simp at hu; done)); all_goals ((try simp [go_sem]) <;> omega))) _)) (M.sets_size _ _) hb
  have q1_a_0 := V1_a.c 0 _ rfl
  have q1_a_1 := V1_a.c 1 _ rfl
  have q1_a_2 := V1_a.c 2 _ rfl
  have q1_a_3 := V1_a.c 3 _ rfl
  have q1_a_4 := V1_a.c 4 _ rfl
  have q1_a_5 := V1_a.c 5 _ rfl
  have q1_a_6 := V1_a.c 6 _ rfl
  have q1_a_7 := V1_a.c 7 _ rfl
  have f1_a := V1_a.2.2; have L1_a := V1_a.lt; have N1_a := Nat.ne_of_gt L1_a; have M1_a := Nat.ne_of_lt L1_a
  have HV1_a := Lib.hid V1_a
  have q1_b_0 := V1_b.c 0 _ rfl
  have q1_b_1 := V1_b.c 1 _ rfl
  have q1_b_2 := V1_b.c 2 _ rfl
  have q1_b_3 := V1_b.c 3 _ rfl
  have q1_b_4 := V1_b.c 4 _ rfl
  have q1_b_5 := V1_b.c 5 _ rfl
  have q1_b_6 := V1_b.c 6 _ rfl
  have q1_b_7 := V1_b.c 7 _ rfl
  have f1_b := V1_b.2.2; have L1_b := V1_b.lt; have N1_b := Nat.ne_of_gt L1_b; have M1_b := Nat.ne_of_lt L1_b
  have HV1_b := Lib.hid V1_b
  have q1_h_0 := V1_h.c 0 _ rfl
  have q1_h_1 := V1_h.c 1 _ rfl
  have q1_h_2 := V1_h.c 2 _ rfl
  have f1_h := V1_h.2.2; have L1_h := V1_h.lt; have N1_h := Nat.ne_of_gt L1_h; have M1_h := Nat.ne_of_lt L1_h
  have HV1_h := Lib.hid V1_h
  have q1_k_0 := V1_k.c 0 _ rfl
  have f1_k := V1_k.2.2; have L1_k := V1_k.lt; have N1_k := Nat.ne_of_gt L1_k; have M1_k := Nat.ne_of_lt L1_k
  have HV1_k := Lib.hid V1_k
  have S1 := G1.size; clear hb
  go_wp2_with fail
  go_ret
  exact ⟨rfl, by (repeat (with_reducible refine M.Below.drewN ?_ _)); go_grown⟩
end Go.Proofs.Ytaagpkacningdaa
