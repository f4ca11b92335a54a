/- For every place VecLengths returns true: a length does not hang on signs, nor on which side is first. -/
import Derived.Test.YtaagpkacningdaaRows
import Derived.WalkKit
import Derived.ProofKit
import Derived.OpenShut
import Derived.Test.YtaagpkacningdaaFacts
import Derived.Test.YtaagpkacningdaaArgs
import Derived.Test.YtaagpkacningdaaVecAlive
import Derived.Deep.DrawnRows
namespace Go.Proofs.Ytaagpkacningdaa.vecLengths
open Go.ChangeShapes Go.WideShapes Go.ChangeAt Go.RowKit M
set_option maxRecDepth 100000
set_option maxHeartbeats 8000000
set_option linter.unusedVariables false
set_option linter.unusedSimpArgs false
attribute [local go_sem ↓] Go.wp_at_zero Go.wp_at_succ
theorem own : ownKnob Try.prog.godebug = none := by kernel_rfl

/-- The walk: the Go text returns true; of what was there nothing turns. -/
theorem walk (a1 a2 : Int) (ha1 : I64 a1) (ha2 : I64 a2) (w : World) :
    Calls Try.prog 22 #[.agg #[.int .i64 a1, .int .i64 a2]] w fun e w' => e = .returned (.bool true) ∧ Bw w w' := by
  have c0 := Lib.hid alive6_c
  by_cases hm : a1 = -9223372036854775808 ∨ a2 = -9223372036854775808
  · have h0 : (a1 == -9223372036854775808) = true ∨ ((a1 == -9223372036854775808) = false ∧ (a2 == -9223372036854775808) = true) := by
      by_cases h : a1 = -9223372036854775808
      · exact Or.inl (beq_iff_eq.2 h)
      · exact Or.inr ⟨beq_eq_false_iff_ne.2 h, beq_iff_eq.2 (hm.resolve_left h)⟩
    clear hm
    rcases h0 with h1 | ⟨h1, h2⟩
    · skip
      go_enter Try.func22, Try.ntmps22
      go_wp2_with fail
      (with_reducible refine (c0.out _).mono ?_); rintro en w1 ⟨rfl, hb⟩
      have G1 : Below w.heap.size w w1 := Below.trans (by (repeat (with_reducible refine M.Below.drewN ?_ _)); go_grown) (hb.mono (by go_size))
      have S1 := G1.size; clear hb
      go_wp2_with fail
      go_ret
      exact ⟨rfl, by (repeat (with_reducible refine M.Below.drewN ?_ _)); go_grown⟩
    · skip
      go_enter Try.func22, Try.ntmps22
      go_wp2_with fail
      (with_reducible refine (c0.out _).mono ?_); rintro en w1 ⟨rfl, hb⟩
      have G1 : Below w.heap.size w w1 := Below.trans (by (repeat (with_reducible refine M.Below.drewN ?_ _)); go_grown) (hb.mono (by go_size))
      have S1 := G1.size; clear hb
      go_wp2_with fail
      go_ret
      exact ⟨rfl, by (repeat (with_reducible refine M.Below.drewN ?_ _)); go_grown⟩
  have h1 : (a1 == -9223372036854775808) = false := beq_eq_false_iff_ne.2 (by omega)
  have h2 : (a2 == -9223372036854775808) = false := beq_eq_false_iff_ne.2 (by omega)
  have hn : -9223372036854775807 ≤ a2 := by unfold I64 at ha2; omega
  clear hm
  have q2 : lenX (-a2) a1 = lenX a1 a2 := lenX_turn _ _
  rcases hP : lenX a1 a2 with n | x
  · rw [hP] at q2
    have z1 := bne_iff_ne.2 (nz_lift _ n hP)
    replace hP := Lib.hid hP; have e2 := Lib.hid q2; clear q2
    go_enter Try.func22, Try.ntmps22
    go_wp2_with fail
    (with_reducible refine (c0.out _).mono ?_); rintro en w1 ⟨rfl, hb⟩
    have G1 : Below w.heap.size w w1 := Below.trans (by (repeat (with_reducible refine M.Below.drewN ?_ _)); go_grown) (hb.mono (by go_size))
    have V1_a : M.Var w1 (w.heap.size) #[.int .i64 a1, .int .i64 a2] := M.Var.mono (by (repeat (first | (with_reducible assumption) | (refine M.var_alloc' _ _ _ ?_; first | rfl | (simp [go_sem]; done)) | (with_reducible refine M.Var.alloc ?_ _) | (with_reducible refine M.Var.drewN ?_ _) | (with_reducible refine M.Var.drew ?_) | (with_reducible refine M.Var.far ?_ _ _ ?h; case h => (first | omega | ((try simp [go_sem]) <;> omega))) | fail))) hb
    have q1_a_0 := V1_a.c 0 _ rfl
    have q1_a_1 := V1_a.c 1 _ rfl
    have f1_a := V1_a.2.2; have L1_a := V1_a.lt; have N1_a := Nat.ne_of_gt L1_a; have M1_a := Nat.ne_of_lt L1_a
    have HV1_a := Lib.hid V1_a
    have S1 := G1.size; clear hb
    go_wp2_with fail
    refine (try_c 92 #[.pointer (some ⟨w.heap.size, 0, none⟩), .pointer (some ⟨w1.heap.size, 0, none⟩)] _ (n) ([]) (fun _ => rfl) ?_ ?_).mono ?_
    · intro u hu; (try simp only [List.mem_append] at hu); (repeat' (obtain hu | hu := (hu : _ ∨ _))); all_goals (first | rw [M.usBx_block hu] | rw [M.usV_block hu] | rw [M.usI_block hu] | rw [M.usHt_block hu] | rw [M.usBd_block hu] | rw [M.cell_block1 hu] | (exfalso; simp at hu; done)); all_goals ((try simp [go_sem]) <;> omega)
    · intro w1' hb; exact (cloLen1 _ _ a1 a2 ha1 ha2 _ (.error n) hP.out w1' (M.Var.mono (b := w.heap.size) (cs := #[.int .i64 a1, .int .i64 a2]) (by (repeat (first | (with_reducible assumption) | (refine M.var_alloc' _ _ _ ?_; first | rfl | (simp [go_sem]; done)) | (with_reducible refine M.Var.alloc ?_ _) | (with_reducible refine M.Var.drewN ?_ _) | (with_reducible refine M.Var.drew ?_) | (with_reducible refine M.Var.far ?_ _ _ ?h; case h => (first | omega | ((try simp [go_sem]) <;> omega))) | fail))) hb) (M.Var.mono (b := w1.heap.size) (cs := #[.int .i64 0]) (by (repeat (first | (with_reducible assumption) | (refine M.var_alloc' _ _ _ ?_; first | rfl | (simp [go_sem]; done)) | (with_reducible refine M.Var.alloc ?_ _) | (with_reducible refine M.Var.drewN ?_ _) | (with_reducible refine M.Var.drew ?_) | (with_reducible refine M.Var.far ?_ _ _ ?h; case h => (first | omega | ((try simp [go_sem]) <;> omega))) | fail))) hb)).mono fun e w' h => h
    rintro en w2 ⟨rfl, hb⟩
    have G2 : Below w.heap.size w w2 := Below.trans (M.below_sets_own ([]) (by (repeat (with_reducible refine M.Below.drewN ?_ _)); go_grown) (by intro u hu; (try simp only [List.mem_append] at hu); (repeat' (obtain hu | hu := (hu : _ ∨ _))); all_goals (first | rw [M.usBx_block hu] | rw [M.usV_block hu] | rw [M.usI_block hu] | rw [M.usHt_block hu] | rw [M.usBd_block hu] | rw [M.cell_block1 hu] | (exfalso; simp at hu; done)); all_goals ((try simp [go_sem]) <;> omega))) (hb.mono (by go_size))
    have V2_a : M.Var w2 (w.heap.size) #[.int .i64 a1, .int .i64 a2] := M.Var.mono' (u := M.sets _ ([])) (by (try simp only [M.sets_append]); exact (M.var_sets_far ([]) (by (repeat (first | (with_reducible assumption) | (refine M.var_alloc' _ _ _ ?_; first | rfl | (simp [go_sem]; done)) | (with_reducible refine M.Var.alloc ?_ _) | (with_reducible refine M.Var.drewN ?_ _) | (with_reducible refine M.Var.drew ?_) | (with_reducible refine M.Var.far ?_ _ _ ?h; case h => (first | omega | ((try simp [go_sem]) <;> omega))) | fail)) : M.Var _ (w.heap.size) #[.int .i64 a1, .int .i64 a2]) (by intro u hu; all_goals (first | rw [M.usBx_block hu] | rw [M.usV_block hu] | rw [M.usI_block hu] | rw [M.usHt_block hu] | rw [M.usBd_block hu] | rw [M.cell_block1 hu] | (exfalso; simp at hu; done)); all_goals ((try simp [go_sem]) <;> omega)))) (M.sets_size _ _) hb
    have V2_x : M.Var w2 (w1.heap.size) #[.int .i64 0] := M.Var.mono' (u := M.sets _ ([])) (by (try simp only [M.sets_append]); exact (M.var_sets_far ([]) (by (repeat (first | (with_reducible assumption) | (refine M.var_alloc' _ _ _ ?_; first | rfl | (simp [go_sem]; done)) | (with_reducible refine M.Var.alloc ?_ _) | (with_reducible refine M.Var.drewN ?_ _) | (with_reducible refine M.Var.drew ?_) | (with_reducible refine M.Var.far ?_ _ _ ?h; case h => (first | omega | ((try simp [go_sem]) <;> omega))) | fail)) : M.Var _ (w1.heap.size) #[.int .i64 0]) (by intro u hu; all_goals (first | rw [M.usBx_block hu] | rw [M.usV_block hu] | rw [M.usI_block hu] | rw [M.usHt_block hu] | rw [M.usBd_block hu] | rw [M.cell_block1 hu] | (exfalso; simp at hu; done)); all_goals ((try simp [go_sem]) <;> omega)))) (M.sets_size _ _) hb
    have V2_y : M.Var w2 (w1.heap.size + 1) #[.int .i64 0] := M.Var.mono' (u := M.sets _ ([])) (by (try simp only [M.sets_append]); exact (M.var_sets_far ([]) (by (repeat (first | (with_reducible assumption) | (refine M.var_alloc' _ _ _ ?_; first | rfl | (simp [go_sem]; done)) | (with_reducible refine M.Var.alloc ?_ _) | (with_reducible refine M.Var.drewN ?_ _) | (with_reducible refine M.Var.drew ?_) | (with_reducible refine M.Var.far ?_ _ _ ?h; case h => (first | omega | ((try simp [go_sem]) <;> omega))) | fail)) : M.Var _ (w1.heap.size + 1) #[.int .i64 0]) (by intro u hu; all_goals (first | rw [M.usBx_block hu] | rw [M.usV_block hu] | rw [M.usI_block hu] | rw [M.usHt_block hu] | rw [M.usBd_block hu] | rw [M.cell_block1 hu] | (exfalso; simp at hu; done)); all_goals ((try simp [go_sem]) <;> omega)))) (M.sets_size _ _) hb
    have q2_a_0 := V2_a.c 0 _ rfl
    have q2_a_1 := V2_a.c 1 _ rfl
    have f2_a := V2_a.2.2; have L2_a := V2_a.lt; have N2_a := Nat.ne_of_gt L2_a; have M2_a := Nat.ne_of_lt L2_a
    have HV2_a := Lib.hid V2_a
    have q2_x_0 := V2_x.c 0 _ rfl
    have f2_x := V2_x.2.2; have L2_x := V2_x.lt; have N2_x := Nat.ne_of_gt L2_x; have M2_x := Nat.ne_of_lt L2_x
    have HV2_x := Lib.hid V2_x
    have q2_y_0 := V2_y.c 0 _ rfl
    have f2_y := V2_y.2.2; have L2_y := V2_y.lt; have N2_y := Nat.ne_of_gt L2_y; have M2_y := Nat.ne_of_lt L2_y
    have HV2_y := Lib.hid V2_y
    have S2 := G2.size; clear hb
    go_wp2_with fail
    refine (try_c 93 #[.pointer (some ⟨w.heap.size, 0, none⟩), .pointer (some ⟨w1.heap.size + 1, 0, none⟩)] _ (n) ([]) (fun _ => rfl) ?_ ?_).mono ?_
    · intro u hu; (try simp only [List.mem_append] at hu); (repeat' (obtain hu | hu := (hu : _ ∨ _))); all_goals (first | rw [M.usBx_block hu] | rw [M.usV_block hu] | rw [M.usI_block hu] | rw [M.usHt_block hu] | rw [M.usBd_block hu] | rw [M.cell_block1 hu] | (exfalso; simp at hu; done)); all_goals ((try simp [go_sem]) <;> omega)
    · intro w1' hb; exact (cloLen2 _ _ a1 a2 ha1 ha2 _ (.error n) e2.out hn w1' (M.Var.mono (b := w.heap.size) (cs := #[.int .i64 a1, .int .i64 a2]) (by (repeat (first | (with_reducible assumption) | (refine M.var_alloc' _ _ _ ?_; first | rfl | (simp [go_sem]; done)) | (with_reducible refine M.Var.alloc ?_ _) | (with_reducible refine M.Var.drewN ?_ _) | (with_reducible refine M.Var.drew ?_) | (with_reducible refine M.Var.far ?_ _ _ ?h; case h => (first | omega | ((try simp [go_sem]) <;> omega))) | fail))) hb) (M.Var.mono (b := w1.heap.size + 1) (cs := #[.int .i64 0]) (by (repeat (first | (with_reducible assumption) | (refine M.var_alloc' _ _ _ ?_; first | rfl | (simp [go_sem]; done)) | (with_reducible refine M.Var.alloc ?_ _) | (with_reducible refine M.Var.drewN ?_ _) | (with_reducible refine M.Var.drew ?_) | (with_reducible refine M.Var.far ?_ _ _ ?h; case h => (first | omega | ((try simp [go_sem]) <;> omega))) | fail))) hb)).mono fun e w' h => h
    rintro en w3 ⟨rfl, hb⟩
    have G3 : Below w.heap.size w w3 := Below.trans (M.below_sets_own ([]) (by (repeat (with_reducible refine M.Below.drewN ?_ _)); go_grown) (by intro u hu; (try simp only [List.mem_append] at hu); (repeat' (obtain hu | hu := (hu : _ ∨ _))); all_goals (first | rw [M.usBx_block hu] | rw [M.usV_block hu] | rw [M.usI_block hu] | rw [M.usHt_block hu] | rw [M.usBd_block hu] | rw [M.cell_block1 hu] | (exfalso; simp at hu; done)); all_goals ((try simp [go_sem]) <;> omega))) (hb.mono (by go_size))
    have V3_a : M.Var w3 (w.heap.size) #[.int .i64 a1, .int .i64 a2] := M.Var.mono' (u := M.sets _ ([])) (by (try simp only [M.sets_append]); exact (M.var_sets_far ([]) (by (repeat (first | (with_reducible assumption) | (refine M.var_alloc' _ _ _ ?_; first | rfl | (simp [go_sem]; done)) | (with_reducible refine M.Var.alloc ?_ _) | (with_reducible refine M.Var.drewN ?_ _) | (with_reducible refine M.Var.drew ?_) | (with_reducible refine M.Var.far ?_ _ _ ?h; case h => (first | omega | ((try simp [go_sem]) <;> omega))) | fail)) : M.Var _ (w.heap.size) #[.int .i64 a1, .int .i64 a2]) (by intro u hu; all_goals (first | rw [M.usBx_block hu] | rw [M.usV_block hu] | rw [M.usI_block hu] | rw [M.usHt_block hu] | rw [M.usBd_block hu] | rw [M.cell_block1 hu] | (exfalso; simp at hu; done)); all_goals ((try simp [go_sem]) <;> omega)))) (M.sets_size _ _) hb
    have V3_x : M.Var w3 (w1.heap.size) #[.int .i64 0] := M.Var.mono' (u := M.sets _ ([])) (by (try simp only [M.sets_append]); exact (M.var_sets_far ([]) (by (repeat (first | (with_reducible assumption) | (refine M.var_alloc' _ _ _ ?_; first | rfl | (simp [go_sem]; done)) | (with_reducible refine M.Var.alloc ?_ _) | (with_reducible refine M.Var.drewN ?_ _) | (with_reducible refine M.Var.drew ?_) | (with_reducible refine M.Var.far ?_ _ _ ?h; case h => (first | omega | ((try simp [go_sem]) <;> omega))) | fail)) : M.Var _ (w1.heap.size) #[.int .i64 0]) (by intro u hu; all_goals (first | rw [M.usBx_block hu] | rw [M.usV_block hu] | rw [M.usI_block hu] | rw [M.usHt_block hu] | rw [M.usBd_block hu] | rw [M.cell_block1 hu] | (exfalso; simp at hu; done)); all_goals ((try simp [go_sem]) <;> omega)))) (M.sets_size _ _) hb
    have V3_y : M.Var w3 (w1.heap.size + 1) #[.int .i64 0] := M.Var.mono' (u := M.sets _ ([])) (by (try simp only [M.sets_append]); exact (M.var_sets_far ([]) (by (repeat (first | (with_reducible assumption) | (refine M.var_alloc' _ _ _ ?_; first | rfl | (simp [go_sem]; done)) | (with_reducible refine M.Var.alloc ?_ _) | (with_reducible refine M.Var.drewN ?_ _) | (with_reducible refine M.Var.drew ?_) | (with_reducible refine M.Var.far ?_ _ _ ?h; case h => (first | omega | ((try simp [go_sem]) <;> omega))) | fail)) : M.Var _ (w1.heap.size + 1) #[.int .i64 0]) (by intro u hu; all_goals (first | rw [M.usBx_block hu] | rw [M.usV_block hu] | rw [M.usI_block hu] | rw [M.usHt_block hu] | rw [M.usBd_block hu] | rw [M.cell_block1 hu] | (exfalso; simp at hu; done)); all_goals ((try simp [go_sem]) <;> omega)))) (M.sets_size _ _) hb
    have q3_a_0 := V3_a.c 0 _ rfl
    have q3_a_1 := V3_a.c 1 _ rfl
    have f3_a := V3_a.2.2; have L3_a := V3_a.lt; have N3_a := Nat.ne_of_gt L3_a; have M3_a := Nat.ne_of_lt L3_a
    have HV3_a := Lib.hid V3_a
    have q3_x_0 := V3_x.c 0 _ rfl
    have f3_x := V3_x.2.2; have L3_x := V3_x.lt; have N3_x := Nat.ne_of_gt L3_x; have M3_x := Nat.ne_of_lt L3_x
    have HV3_x := Lib.hid V3_x
    have q3_y_0 := V3_y.c 0 _ rfl
    have f3_y := V3_y.2.2; have L3_y := V3_y.lt; have N3_y := Nat.ne_of_gt L3_y; have M3_y := Nat.ne_of_lt L3_y
    have HV3_y := Lib.hid V3_y
    have S3 := G3.size; clear hb
    go_wp2_with fail
    go_ret
    exact ⟨rfl, by (repeat (with_reducible refine M.Below.drewN ?_ _)); go_grown⟩
  · rw [hP] at q2
    have z1 := lenX_nonneg hP
    replace hP := Lib.hid hP; have e2 := Lib.hid q2; clear q2
    go_enter Try.func22, Try.ntmps22
    go_wp2_with fail
    (with_reducible refine (c0.out _).mono ?_); rintro en w1 ⟨rfl, hb⟩
    have G1 : Below w.heap.size w w1 := Below.trans (by (repeat (with_reducible refine M.Below.drewN ?_ _)); go_grown) (hb.mono (by go_size))
    have V1_a : M.Var w1 (w.heap.size) #[.int .i64 a1, .int .i64 a2] := M.Var.mono (by (repeat (first | (with_reducible assumption) | (refine M.var_alloc' _ _ _ ?_; first | rfl | (simp [go_sem]; done)) | (with_reducible refine M.Var.alloc ?_ _) | (with_reducible refine M.Var.drewN ?_ _) | (with_reducible refine M.Var.drew ?_) | (with_reducible refine M.Var.far ?_ _ _ ?h; case h => (first | omega | ((try simp [go_sem]) <;> omega))) | fail))) hb
    have q1_a_0 := V1_a.c 0 _ rfl
    have q1_a_1 := V1_a.c 1 _ rfl
    have f1_a := V1_a.2.2; have L1_a := V1_a.lt; have N1_a := Nat.ne_of_gt L1_a; have M1_a := Nat.ne_of_lt L1_a
    have HV1_a := Lib.hid V1_a
    have S1 := G1.size; clear hb
    go_wp2_with fail
    refine (try_c 92 #[.pointer (some ⟨w.heap.size, 0, none⟩), .pointer (some ⟨w1.heap.size, 0, none⟩)] _ (0) (usI (w1.heap.size) (.ok x)) (fun _ => rfl) ?_ ?_).mono ?_
    · intro u hu; (try simp only [List.mem_append] at hu); (repeat' (obtain hu | hu := (hu : _ ∨ _))); all_goals (first | rw [M.usBx_block hu] | rw [M.usV_block hu] | rw [M.usI_block hu] | rw [M.usHt_block hu] | rw [M.usBd_block hu] | rw [M.cell_block1 hu] | (exfalso; simp at hu; done)); all_goals ((try simp [go_sem]) <;> omega)
    · intro w1' hb; exact (cloLen1 _ _ a1 a2 ha1 ha2 _ (.ok x) hP.out w1' (M.Var.mono (b := w.heap.size) (cs := #[.int .i64 a1, .int .i64 a2]) (by (repeat (first | (with_reducible assumption) | (refine M.var_alloc' _ _ _ ?_; first | rfl | (simp [go_sem]; done)) | (with_reducible refine M.Var.alloc ?_ _) | (with_reducible refine M.Var.drewN ?_ _) | (with_reducible refine M.Var.drew ?_) | (with_reducible refine M.Var.far ?_ _ _ ?h; case h => (first | omega | ((try simp [go_sem]) <;> omega))) | fail))) hb) (M.Var.mono (b := w1.heap.size) (cs := #[.int .i64 0]) (by (repeat (first | (with_reducible assumption) | (refine M.var_alloc' _ _ _ ?_; first | rfl | (simp [go_sem]; done)) | (with_reducible refine M.Var.alloc ?_ _) | (with_reducible refine M.Var.drewN ?_ _) | (with_reducible refine M.Var.drew ?_) | (with_reducible refine M.Var.far ?_ _ _ ?h; case h => (first | omega | ((try simp [go_sem]) <;> omega))) | fail))) hb)).mono fun e w' h => h
    rintro en w2 ⟨rfl, hb⟩
    have G2 : Below w.heap.size w w2 := Below.trans (M.below_sets_own (usI (w1.heap.size) (.ok x)) (by (repeat (with_reducible refine M.Below.drewN ?_ _)); go_grown) (by intro u hu; (try simp only [List.mem_append] at hu); (repeat' (obtain hu | hu := (hu : _ ∨ _))); all_goals (first | rw [M.usBx_block hu] | rw [M.usV_block hu] | rw [M.usI_block hu] | rw [M.usHt_block hu] | rw [M.usBd_block hu] | rw [M.cell_block1 hu] | (exfalso; simp at hu; done)); all_goals ((try simp [go_sem]) <;> omega))) (hb.mono (by go_size))
    have V2_a : M.Var w2 (w.heap.size) #[.int .i64 a1, .int .i64 a2] := M.Var.mono' (u := M.sets _ (usI (w1.heap.size) (.ok x))) (by (try simp only [M.sets_append]); exact (M.var_sets_far (usI (w1.heap.size) (.ok x)) (by (repeat (first | (with_reducible assumption) | (refine M.var_alloc' _ _ _ ?_; first | rfl | (simp [go_sem]; done)) | (with_reducible refine M.Var.alloc ?_ _) | (with_reducible refine M.Var.drewN ?_ _) | (with_reducible refine M.Var.drew ?_) | (with_reducible refine M.Var.far ?_ _ _ ?h; case h => (first | omega | ((try simp [go_sem]) <;> omega))) | fail)) : M.Var _ (w.heap.size) #[.int .i64 a1, .int .i64 a2]) (by intro u hu; all_goals (first | rw [M.usBx_block hu] | rw [M.usV_block hu] | rw [M.usI_block hu] | rw [M.usHt_block hu] | rw [M.usBd_block hu] | rw [M.cell_block1 hu] | (exfalso; simp at hu; done)); all_goals ((try simp [go_sem]) <;> omega)))) (M.sets_size _ _) hb
    have V2_x : M.Var w2 (w1.heap.size) #[.int .i64 x] := M.Var.mono' (u := M.sets _ (usI (w1.heap.size) (.ok x))) (by (try simp only [M.sets_append]); exact (M.var_setI (by (repeat (first | (with_reducible assumption) | (refine M.var_alloc' _ _ _ ?_; first | rfl | (simp [go_sem]; done)) | (with_reducible refine M.Var.alloc ?_ _) | (with_reducible refine M.Var.drewN ?_ _) | (with_reducible refine M.Var.drew ?_) | (with_reducible refine M.Var.far ?_ _ _ ?h; case h => (first | omega | ((try simp [go_sem]) <;> omega))) | fail)) : M.Var _ (w1.heap.size) #[.int .i64 0]) _)) (M.sets_size _ _) hb
    have V2_y : M.Var w2 (w1.heap.size + 1) #[.int .i64 0] := M.Var.mono' (u := M.sets _ (usI (w1.heap.size) (.ok x))) (by (try simp only [M.sets_append]); exact (M.var_sets_far (usI (w1.heap.size) (.ok x)) (by (repeat (first | (with_reducible assumption) | (refine M.var_alloc' _ _ _ ?_; first | rfl | (simp [go_sem]; done)) | (with_reducible refine M.Var.alloc ?_ _) | (with_reducible refine M.Var.drewN ?_ _) | (with_reducible refine M.Var.drew ?_) | (with_reducible refine M.Var.far ?_ _ _ ?h; case h => (first | omega | ((try simp [go_sem]) <;> omega))) | fail)) : M.Var _ (w1.heap.size + 1) #[.int .i64 0]) (by intro u hu; all_goals (first | rw [M.usBx_block hu] | rw [M.usV_block hu] | rw [M.usI_block hu] | rw [M.usHt_block hu] | rw [M.usBd_block hu] | rw [M.cell_block1 hu] | (exfalso; simp at hu; done)); all_goals ((try simp [go_sem]) <;> omega)))) (M.sets_size _ _) hb
    have q2_a_0 := V2_a.c 0 _ rfl
    have q2_a_1 := V2_a.c 1 _ rfl
    have f2_a := V2_a.2.2; have L2_a := V2_a.lt; have N2_a := Nat.ne_of_gt L2_a; have M2_a := Nat.ne_of_lt L2_a
    have HV2_a := Lib.hid V2_a
    have q2_x_0 := V2_x.c 0 _ rfl
    have f2_x := V2_x.2.2; have L2_x := V2_x.lt; have N2_x := Nat.ne_of_gt L2_x; have M2_x := Nat.ne_of_lt L2_x
    have HV2_x := Lib.hid V2_x
    have q2_y_0 := V2_y.c 0 _ rfl
    have f2_y := V2_y.2.2; have L2_y := V2_y.lt; have N2_y := Nat.ne_of_gt L2_y; have M2_y := Nat.ne_of_lt L2_y
    have HV2_y := Lib.hid V2_y
    have S2 := G2.size; clear hb
    go_wp2_with fail
    refine (try_c 93 #[.pointer (some ⟨w.heap.size, 0, none⟩), .pointer (some ⟨w1.heap.size + 1, 0, none⟩)] _ (0) (usI (w1.heap.size + 1) (.ok x)) (fun _ => rfl) ?_ ?_).mono ?_
    · intro u hu; (try simp only [List.mem_append] at hu); (repeat' (obtain hu | hu := (hu : _ ∨ _))); all_goals (first | rw [M.usBx_block hu] | rw [M.usV_block hu] | rw [M.usI_block hu] | rw [M.usHt_block hu] | rw [M.usBd_block hu] | rw [M.cell_block1 hu] | (exfalso; simp at hu; done)); all_goals ((try simp [go_sem]) <;> omega)
    · intro w1' hb; exact (cloLen2 _ _ a1 a2 ha1 ha2 _ (.ok x) e2.out hn w1' (M.Var.mono (b := w.heap.size) (cs := #[.int .i64 a1, .int .i64 a2]) (by (repeat (first | (with_reducible assumption) | (refine M.var_alloc' _ _ _ ?_; first | rfl | (simp [go_sem]; done)) | (with_reducible refine M.Var.alloc ?_ _) | (with_reducible refine M.Var.drewN ?_ _) | (with_reducible refine M.Var.drew ?_) | (with_reducible refine M.Var.far ?_ _ _ ?h; case h => (first | omega | ((try simp [go_sem]) <;> omega))) | fail))) hb) (M.Var.mono (b := w1.heap.size + 1) (cs := #[.int .i64 0]) (by (repeat (first | (with_reducible assumption) | (refine M.var_alloc' _ _ _ ?_; first | rfl | (simp [go_sem]; done)) | (with_reducible refine M.Var.alloc ?_ _) | (with_reducible refine M.Var.drewN ?_ _) | (with_reducible refine M.Var.drew ?_) | (with_reducible refine M.Var.far ?_ _ _ ?h; case h => (first | omega | ((try simp [go_sem]) <;> omega))) | fail))) hb)).mono fun e w' h => h
    rintro en w3 ⟨rfl, hb⟩
    have G3 : Below w.heap.size w w3 := Below.trans (M.below_sets_own (usI (w1.heap.size + 1) (.ok x)) (by (repeat (with_reducible refine M.Below.drewN ?_ _)); go_grown) (by intro u hu; (try simp only [List.mem_append] at hu); (repeat' (obtain hu | hu := (hu : _ ∨ _))); all_goals (first | rw [M.usBx_block hu] | rw [M.usV_block hu] | rw [M.usI_block hu] | rw [M.usHt_block hu] | rw [M.usBd_block hu] | rw [M.cell_block1 hu] | (exfalso; simp at hu; done)); all_goals ((try simp [go_sem]) <;> omega))) (hb.mono (by go_size))
    have V3_a : M.Var w3 (w.heap.size) #[.int .i64 a1, .int .i64 a2] := M.Var.mono' (u := M.sets _ (usI (w1.heap.size + 1) (.ok x))) (by (try simp only [M.sets_append]); exact (M.var_sets_far (usI (w1.heap.size + 1) (.ok x)) (by (repeat (first | (with_reducible assumption) | (refine M.var_alloc' _ _ _ ?_; first | rfl | (simp [go_sem]; done)) | (with_reducible refine M.Var.alloc ?_ _) | (with_reducible refine M.Var.drewN ?_ _) | (with_reducible refine M.Var.drew ?_) | (with_reducible refine M.Var.far ?_ _ _ ?h; case h => (first | omega | ((try simp [go_sem]) <;> omega))) | fail)) : M.Var _ (w.heap.size) #[.int .i64 a1, .int .i64 a2]) (by intro u hu; all_goals (first | rw [M.usBx_block hu] | rw [M.usV_block hu] | rw [M.usI_block hu] | rw [M.usHt_block hu] | rw [M.usBd_block hu] | rw [M.cell_block1 hu] | (exfalso; simp at hu; done)); all_goals ((try simp [go_sem]) <;> omega)))) (M.sets_size _ _) hb
    have V3_x : M.Var w3 (w1.heap.size) #[.int .i64 x] := M.Var.mono' (u := M.sets _ (usI (w1.heap.size + 1) (.ok x))) (by (try simp only [M.sets_append]); exact (M.var_sets_far (usI (w1.heap.size + 1) (.ok x)) (by (repeat (first | (with_reducible assumption) | (refine M.var_alloc' _ _ _ ?_; first | rfl | (simp [go_sem]; done)) | (with_reducible refine M.Var.alloc ?_ _) | (with_reducible refine M.Var.drewN ?_ _) | (with_reducible refine M.Var.drew ?_) | (with_reducible refine M.Var.far ?_ _ _ ?h; case h => (first | omega | ((try simp [go_sem]) <;> omega))) | fail)) : M.Var _ (w1.heap.size) #[.int .i64 x]) (by intro u hu; all_goals (first | rw [M.usBx_block hu] | rw [M.usV_block hu] | rw [M.usI_block hu] | rw [M.usHt_block hu] | rw [M.usBd_block hu] | rw [M.cell_block1 hu] | (exfalso; simp at hu; done)); all_goals ((try simp [go_sem]) <;> omega)))) (M.sets_size _ _) hb
    have V3_y : M.Var w3 (w1.heap.size + 1) #[.int .i64 x] := M.Var.mono' (u := M.sets _ (usI (w1.heap.size + 1) (.ok x))) (by (try simp only [M.sets_append]); exact (M.var_setI (by (repeat (first | (with_reducible assumption) | (refine M.var_alloc' _ _ _ ?_; first | rfl | (simp [go_sem]; done)) | (with_reducible refine M.Var.alloc ?_ _) | (with_reducible refine M.Var.drewN ?_ _) | (with_reducible refine M.Var.drew ?_) | (with_reducible refine M.Var.far ?_ _ _ ?h; case h => (first | omega | ((try simp [go_sem]) <;> omega))) | fail)) : M.Var _ (w1.heap.size + 1) #[.int .i64 0]) _)) (M.sets_size _ _) hb
    have q3_a_0 := V3_a.c 0 _ rfl
    have q3_a_1 := V3_a.c 1 _ rfl
    have f3_a := V3_a.2.2; have L3_a := V3_a.lt; have N3_a := Nat.ne_of_gt L3_a; have M3_a := Nat.ne_of_lt L3_a
    have HV3_a := Lib.hid V3_a
    have q3_x_0 := V3_x.c 0 _ rfl
    have f3_x := V3_x.2.2; have L3_x := V3_x.lt; have N3_x := Nat.ne_of_gt L3_x; have M3_x := Nat.ne_of_lt L3_x
    have HV3_x := Lib.hid V3_x
    have q3_y_0 := V3_y.c 0 _ rfl
    have f3_y := V3_y.2.2; have L3_y := V3_y.lt; have N3_y := Nat.ne_of_gt L3_y; have M3_y := Nat.ne_of_lt L3_y
    have HV3_y := Lib.hid V3_y
    have S3 := G3.size; clear hb
    go_wp2_with fail
    go_ret
    exact ⟨rfl, by (repeat (with_reducible refine M.Below.drewN ?_ _)); go_grown⟩

theorem lifted (os : Os) (started : os.Started) (H : Type) (enc : TypeId × Value → H) :
    ReturnsInHanded {} Try.checked os 22 .any (Rows.vecLengthsSpec.pre6 enc Try.prog Try.f22 Rows.vecLengthsRow.domain false) (Rows.vecLengthsSpec.post enc Try.prog Try.f22 false true false false) := by
  refine returnsInHanded_of_change (C := Try.checked) own started (by kernel_rfl) Try.func22
    (ChangeSpec.witness6 (enc := enc) (C := Try.checked) false ⟨#[], #[.agg #[.int .i64 0, .int .i64 0]], []⟩ 8 (by kernel_rfl) (by kernel_rfl) (by kernel_rfl) (by kernel_rfl)) ?_
  intro W base args ds gs before hval0 hW hcnd _
  have hval : ∀ (j : Nat) t v, Try.f22.params[j]? = some t → args[j]? = some v → Value.okWide Try.prog W .any base t v := hval0
  have hW' := hW
  obtain ⟨p, q, hA0, hV, rfl, hfz, hnd⟩ := hW
  have hA : DataW.TrodAll enc Try.prog W 0 (fun _ => true) true Try.f22.params.toList args.toList ds p := hA0
  rw [Try.params22] at hA hval
  obtain ⟨v0, vs0, d0, ds0, p0, q0, hargs, rfl, rfl, h0, r0⟩ := trodAll_cons hA
  obtain ⟨rfl, rfl, rfl⟩ := trodAll_nil r0
  obtain rfl : args = #[v0] := by cases args; simp_all
  obtain ⟨rfl, rfl⟩ := trodVars_none hV
  obtain ⟨a1, a2, rfl, rfl, rfl, wa1, wa2⟩ := open_vec (hval 0 24 v0 rfl rfl) h0
  clear hA0 hval0
  simp only [List.append_nil] at hW'
  refine (walk a1 a2 (i64_wf wa1) (i64_wf wa2) W).mono fun e W' ⟨he, hg⟩ => ?_
  subst he
  exact ⟨_, rfl, post_below (pa := []) (pv := []) hW' (fun _ _ _ => (trodAll_cons_mk (shut_bool Try.underlying4 _) trodAll_mk0)) (fun sp _ => (trodAll_cons_mk (shut_vec wa1 wa2) trodAll_mk0)) (fun _ _ => rfl) rfl
    hg (ok_one (by kernel_rfl) rfl (okWide_bool_mk Try.underlying4 _))⟩

theorem closed : joinedFacts Try.prog 22 Try.f22 Rows.vecLengthsSpec Rows.vecLengthsRow = true := by
  unfold joinedFacts
  rw [fact_laid, fact_maps, fact_keys, fact_heard, fact_stops, fact_knobs, fact_enter, fact_lifts, fact_make]
  kernel_rfl

theorem over : Rows.vecLengthsRow.holds Try.pinned (OpenSpec.ofChange Rows.vecLengthsSpec) :=
  OpenClaim.holds_of_wide 22 Try.f22 rfl rfl rfl rfl rfl rfl rfl ⟨rfl, rfl, rfl, rfl, rfl⟩ rfl rfl rfl rfl rfl (by kernel_rfl) Try.func22 closed
    (of_decide_eq_true (by kernel_rfl)) (by unfold Func.isWrapper; first | (rw [if_pos (by decide +kernel)]; kernel_rfl) | (rw [if_neg (by decide +kernel)]; exact ⟨rfl, rfl⟩))
    (fun os started H enc _ => lifted os started H enc)

/-- The statement. -/
theorem proved : Rows.VecLengthsSaid :=
  over
#print axioms proved
end Go.Proofs.Ytaagpkacningdaa.vecLengths
