/- For every body, every two boxes and every place BoundsTells returns true: boxes, meetings, places in boxes and nearest places are the reference's. -/
import Derived.Test.YtaagpkacningdaaRows
import Derived.WalkKit
import Derived.ProofKit
import Derived.OpenShut
import Derived.Test.YtaagpkacningdaaFacts
import Derived.Test.YtaagpkacningdaaArgs
import Derived.Test.YtaagpkacningdaaRefRight
import Derived.Test.YtaagpkacningdaaRefBounds
import Derived.Test.YtaagpkacningdaaClo8
import Derived.Test.YtaagpkacningdaaBoundsAlive
import Derived.Deep.DrawnRows
namespace Go.Proofs.Ytaagpkacningdaa.boundsTells
open Go.ChangeShapes Go.WideShapes Go.ChangeAt Go.RowKit M
set_option maxRecDepth 100000
set_option maxHeartbeats 8000000
set_option linter.unusedVariables false
set_option linter.unusedSimpArgs false
attribute [local go_sem ↓] Go.wp_at_zero Go.wp_at_succ
theorem walkOA (b : Bd) (hb : b.ok) (x : Bx) (hx : x.ok) (y : Bx) (hy : y.ok) (v1 v2 : Int) (hv1 : I64 v1) (hv2 : I64 v2) (w : World) (q : Bx) (hP : boxX b = .ok q) (hin : (inBx (v1, v2) x = false ∧ ¬ x.lx ≤ v1) ∨ (inBx (v1, v2) x = false ∧ x.lx ≤ v1 ∧ ¬ v1 ≤ x.hx)) :
    Calls Try.prog 6 #[.agg #[.int .i64 b.shape, .int .i64 b.sx, .int .i64 b.sy, .int .i64 b.mass, .int .i64 b.px, .int .i64 b.py, .int .i64 b.mx, .int .i64 b.my], .agg #[.int .i64 x.lx, .int .i64 x.ly, .int .i64 x.hx, .int .i64 x.hy], .agg #[.int .i64 y.lx, .int .i64 y.ly, .int .i64 y.hx, .int .i64 y.hy], .agg #[.int .i64 v1, .int .i64 v2]] w fun e w' => e = .returned (.bool true) ∧ Bw w w' := by
  have c0 := Lib.hid alive8_c
  have hB := hb
  have c1 := meet_x x y
  have c2 := refMeet_x x y
  have c3 := both_bx_x x y
  have c4 := in_bx_x v1 v2 x
  have c5 := clampV_x v1 v2 x
  have c6 := refClamp_x v1 v2 x
  generalize meetB x y = m at *
  generalize clampI v1 x.lx x.hx = e1 at *
  generalize clampI v2 x.ly x.hy = e2 at *
  unfold bothBx at c3
  dsimp only at c3
  have C1 := Lib.hid c1; have C2 := Lib.hid c2; have C3 := Lib.hid c3; have C5 := Lib.hid c5; have C6 := Lib.hid c6
  clear c1 c2 c3 c5 c6
  generalize inBx (v1, v2) x = i at *
  skip
  have K1 := Lib.hid (fun pb w hp => (refBounds_x pb 0 b hB w hp).mono fun en w' h => relBx_ok hP h)
  replace hP := Lib.hid hP
  rcases hin with ⟨rfl, a1⟩ | ⟨rfl, a1, a2⟩
  · skip
    have C4 := Lib.hid c4
    clear c4
    have k := decide_eq_false a1
    go_enter Try.func6, Try.ntmps6
    go_wp2_with fail
    (with_reducible refine (c0.out _).mono ?_); rintro en w1 ⟨rfl, hb⟩
    have G1 : Below w.heap.size w w1 := Below.trans (by (repeat (with_reducible refine M.Below.drewN ?_ _)); go_grown) (hb.mono (by go_size))
    have V1_b : M.Var w1 (w.heap.size) #[.int .i64 b.shape, .int .i64 b.sx, .int .i64 b.sy, .int .i64 b.mass, .int .i64 b.px, .int .i64 b.py, .int .i64 b.mx, .int .i64 b.my] := M.Var.mono (by (repeat (first | (with_reducible assumption) | (refine M.var_alloc' _ _ _ ?_; first | rfl | (simp [go_sem]; done)) | (with_reducible refine M.Var.alloc ?_ _) | (with_reducible refine M.Var.drewN ?_ _) | (with_reducible refine M.Var.drew ?_) | (with_reducible refine M.Var.far ?_ _ _ ?h; case h => (first | omega | ((try simp [go_sem]) <;> omega))) | fail))) hb
    have V1_x : M.Var w1 (w.heap.size + 1) #[.int .i64 x.lx, .int .i64 x.ly, .int .i64 x.hx, .int .i64 x.hy] := M.Var.mono (by (repeat (first | (with_reducible assumption) | (refine M.var_alloc' _ _ _ ?_; first | rfl | (simp [go_sem]; done)) | (with_reducible refine M.Var.alloc ?_ _) | (with_reducible refine M.Var.drewN ?_ _) | (with_reducible refine M.Var.drew ?_) | (with_reducible refine M.Var.far ?_ _ _ ?h; case h => (first | omega | ((try simp [go_sem]) <;> omega))) | fail))) hb
    have V1_y : M.Var w1 (w.heap.size + 1 + 1) #[.int .i64 y.lx, .int .i64 y.ly, .int .i64 y.hx, .int .i64 y.hy] := M.Var.mono (by (repeat (first | (with_reducible assumption) | (refine M.var_alloc' _ _ _ ?_; first | rfl | (simp [go_sem]; done)) | (with_reducible refine M.Var.alloc ?_ _) | (with_reducible refine M.Var.drewN ?_ _) | (with_reducible refine M.Var.drew ?_) | (with_reducible refine M.Var.far ?_ _ _ ?h; case h => (first | omega | ((try simp [go_sem]) <;> omega))) | fail))) hb
    have V1_v : M.Var w1 (w.heap.size + 1 + 1 + 1) #[.int .i64 v1, .int .i64 v2] := M.Var.mono (by (repeat (first | (with_reducible assumption) | (refine M.var_alloc' _ _ _ ?_; first | rfl | (simp [go_sem]; done)) | (with_reducible refine M.Var.alloc ?_ _) | (with_reducible refine M.Var.drewN ?_ _) | (with_reducible refine M.Var.drew ?_) | (with_reducible refine M.Var.far ?_ _ _ ?h; case h => (first | omega | ((try simp [go_sem]) <;> omega))) | fail))) hb
    have q1_b_0 := V1_b.c 0 _ rfl
    have q1_b_1 := V1_b.c 1 _ rfl
    have q1_b_2 := V1_b.c 2 _ rfl
    have q1_b_3 := V1_b.c 3 _ rfl
    have q1_b_4 := V1_b.c 4 _ rfl
    have q1_b_5 := V1_b.c 5 _ rfl
    have q1_b_6 := V1_b.c 6 _ rfl
    have q1_b_7 := V1_b.c 7 _ rfl
    have f1_b := V1_b.2.2; have L1_b := V1_b.lt; have N1_b := Nat.ne_of_gt L1_b; have M1_b := Nat.ne_of_lt L1_b
    have HV1_b := Lib.hid V1_b
    have q1_x_0 := V1_x.c 0 _ rfl
    have q1_x_1 := V1_x.c 1 _ rfl
    have q1_x_2 := V1_x.c 2 _ rfl
    have q1_x_3 := V1_x.c 3 _ rfl
    have f1_x := V1_x.2.2; have L1_x := V1_x.lt; have N1_x := Nat.ne_of_gt L1_x; have M1_x := Nat.ne_of_lt L1_x
    have HV1_x := Lib.hid V1_x
    have q1_y_0 := V1_y.c 0 _ rfl
    have q1_y_1 := V1_y.c 1 _ rfl
    have q1_y_2 := V1_y.c 2 _ rfl
    have q1_y_3 := V1_y.c 3 _ rfl
    have f1_y := V1_y.2.2; have L1_y := V1_y.lt; have N1_y := Nat.ne_of_gt L1_y; have M1_y := Nat.ne_of_lt L1_y
    have HV1_y := Lib.hid V1_y
    have q1_v_0 := V1_v.c 0 _ rfl
    have q1_v_1 := V1_v.c 1 _ rfl
    have f1_v := V1_v.2.2; have L1_v := V1_v.lt; have N1_v := Nat.ne_of_gt L1_v; have M1_v := Nat.ne_of_lt L1_v
    have HV1_v := Lib.hid V1_v
    have S1 := G1.size; clear hb
    go_wp2_with fail
    (with_reducible refine (K1.out _ _ (M.pcell_var (by (repeat (first | (with_reducible assumption) | (refine M.var_alloc' _ _ _ ?_; first | rfl | (simp [go_sem]; done)) | (with_reducible refine M.Var.alloc ?_ _) | (with_reducible refine M.Var.drewN ?_ _) | (with_reducible refine M.Var.drew ?_) | (with_reducible refine M.Var.far ?_ _ _ ?h; case h => (first | omega | ((try simp [go_sem]) <;> omega))) | fail)) : M.Var _ (w1.heap.size) #[.int .i64 0]))).mono ?_); rintro en w2 ⟨rfl, hb⟩
    have G2 : Below w.heap.size w w2 := Below.trans (M.below_sets_own ([(⟨w1.heap.size, 0, none⟩, .int .i64 0)]) (by (repeat (with_reducible refine M.Below.drewN ?_ _)); go_grown) (by intro u hu; rw [M.cell_block1 hu]; dsimp only; omega)) (hb.mono (by go_size))
    have V2_b : M.Var w2 (w.heap.size) #[.int .i64 b.shape, .int .i64 b.sx, .int .i64 b.sy, .int .i64 b.mass, .int .i64 b.px, .int .i64 b.py, .int .i64 b.mx, .int .i64 b.my] := M.Var.mono' (u := M.sets _ ([(⟨w1.heap.size, 0, none⟩, .int .i64 0)])) (by (try simp only [M.sets_append]); exact (M.var_sets_far ([(⟨w1.heap.size, 0, none⟩, .int .i64 0)]) (by (repeat (first | (with_reducible assumption) | (refine M.var_alloc' _ _ _ ?_; first | rfl | (simp [go_sem]; done)) | (with_reducible refine M.Var.alloc ?_ _) | (with_reducible refine M.Var.drewN ?_ _) | (with_reducible refine M.Var.drew ?_) | (with_reducible refine M.Var.far ?_ _ _ ?h; case h => (first | omega | ((try simp [go_sem]) <;> omega))) | fail)) : M.Var _ (w.heap.size) #[.int .i64 b.shape, .int .i64 b.sx, .int .i64 b.sy, .int .i64 b.mass, .int .i64 b.px, .int .i64 b.py, .int .i64 b.mx, .int .i64 b.my]) (by intro u hu; all_goals (first | rw [M.usBx_block hu] | rw [M.usV_block hu] | rw [M.usI_block hu] | rw [M.usHt_block hu] | rw [M.usBd_block hu] | rw [M.cell_block1 hu] | (exfalso; simp at hu; done)); all_goals ((try simp [go_sem]) <;> omega)))) (M.sets_size _ _) hb
    have V2_x : M.Var w2 (w.heap.size + 1) #[.int .i64 x.lx, .int .i64 x.ly, .int .i64 x.hx, .int .i64 x.hy] := M.Var.mono' (u := M.sets _ ([(⟨w1.heap.size, 0, none⟩, .int .i64 0)])) (by (try simp only [M.sets_append]); exact (M.var_sets_far ([(⟨w1.heap.size, 0, none⟩, .int .i64 0)]) (by (repeat (first | (with_reducible assumption) | (refine M.var_alloc' _ _ _ ?_; first | rfl | (simp [go_sem]; done)) | (with_reducible refine M.Var.alloc ?_ _) | (with_reducible refine M.Var.drewN ?_ _) | (with_reducible refine M.Var.drew ?_) | (with_reducible refine M.Var.far ?_ _ _ ?h; case h => (first | omega | ((try simp [go_sem]) <;> omega))) | fail)) : M.Var _ (w.heap.size + 1) #[.int .i64 x.lx, .int .i64 x.ly, .int .i64 x.hx, .int .i64 x.hy]) (by intro u hu; all_goals (first | rw [M.usBx_block hu] | rw [M.usV_block hu] | rw [M.usI_block hu] | rw [M.usHt_block hu] | rw [M.usBd_block hu] | rw [M.cell_block1 hu] | (exfalso; simp at hu; done)); all_goals ((try simp [go_sem]) <;> omega)))) (M.sets_size _ _) hb
    have V2_y : M.Var w2 (w.heap.size + 1 + 1) #[.int .i64 y.lx, .int .i64 y.ly, .int .i64 y.hx, .int .i64 y.hy] := M.Var.mono' (u := M.sets _ ([(⟨w1.heap.size, 0, none⟩, .int .i64 0)])) (by (try simp only [M.sets_append]); exact (M.var_sets_far ([(⟨w1.heap.size, 0, none⟩, .int .i64 0)]) (by (repeat (first | (with_reducible assumption) | (refine M.var_alloc' _ _ _ ?_; first | rfl | (simp [go_sem]; done)) | (with_reducible refine M.Var.alloc ?_ _) | (with_reducible refine M.Var.drewN ?_ _) | (with_reducible refine M.Var.drew ?_) | (with_reducible refine M.Var.far ?_ _ _ ?h; case h => (first | omega | ((try simp [go_sem]) <;> omega))) | fail)) : M.Var _ (w.heap.size + 1 + 1) #[.int .i64 y.lx, .int .i64 y.ly, .int .i64 y.hx, .int .i64 y.hy]) (by intro u hu; all_goals (first | rw [M.usBx_block hu] | rw [M.usV_block hu] | rw [M.usI_block hu] | rw [M.usHt_block hu] | rw [M.usBd_block hu] | rw [M.cell_block1 hu] | (exfalso; simp at hu; done)); all_goals ((try simp [go_sem]) <;> omega)))) (M.sets_size _ _) hb
    have V2_v : M.Var w2 (w.heap.size + 1 + 1 + 1) #[.int .i64 v1, .int .i64 v2] := M.Var.mono' (u := M.sets _ ([(⟨w1.heap.size, 0, none⟩, .int .i64 0)])) (by (try simp only [M.sets_append]); exact (M.var_sets_far ([(⟨w1.heap.size, 0, none⟩, .int .i64 0)]) (by (repeat (first | (with_reducible assumption) | (refine M.var_alloc' _ _ _ ?_; first | rfl | (simp [go_sem]; done)) | (with_reducible refine M.Var.alloc ?_ _) | (with_reducible refine M.Var.drewN ?_ _) | (with_reducible refine M.Var.drew ?_) | (with_reducible refine M.Var.far ?_ _ _ ?h; case h => (first | omega | ((try simp [go_sem]) <;> omega))) | fail)) : M.Var _ (w.heap.size + 1 + 1 + 1) #[.int .i64 v1, .int .i64 v2]) (by intro u hu; all_goals (first | rw [M.usBx_block hu] | rw [M.usV_block hu] | rw [M.usI_block hu] | rw [M.usHt_block hu] | rw [M.usBd_block hu] | rw [M.cell_block1 hu] | (exfalso; simp at hu; done)); all_goals ((try simp [go_sem]) <;> omega)))) (M.sets_size _ _) hb
    have V2_c : M.Var w2 (w1.heap.size) #[.int .i64 0] := M.Var.mono' (u := M.sets _ ([(⟨w1.heap.size, 0, none⟩, .int .i64 0)])) (by (try simp only [M.sets_append]); exact (M.var_setI (by (repeat (first | (with_reducible assumption) | (refine M.var_alloc' _ _ _ ?_; first | rfl | (simp [go_sem]; done)) | (with_reducible refine M.Var.alloc ?_ _) | (with_reducible refine M.Var.drewN ?_ _) | (with_reducible refine M.Var.drew ?_) | (with_reducible refine M.Var.far ?_ _ _ ?h; case h => (first | omega | ((try simp [go_sem]) <;> omega))) | fail)) : M.Var _ (w1.heap.size) #[.int .i64 0]) _)) (M.sets_size _ _) hb
    have q2_b_0 := V2_b.c 0 _ rfl
    have q2_b_1 := V2_b.c 1 _ rfl
    have q2_b_2 := V2_b.c 2 _ rfl
    have q2_b_3 := V2_b.c 3 _ rfl
    have q2_b_4 := V2_b.c 4 _ rfl
    have q2_b_5 := V2_b.c 5 _ rfl
    have q2_b_6 := V2_b.c 6 _ rfl
    have q2_b_7 := V2_b.c 7 _ rfl
    have f2_b := V2_b.2.2; have L2_b := V2_b.lt; have N2_b := Nat.ne_of_gt L2_b; have M2_b := Nat.ne_of_lt L2_b
    have HV2_b := Lib.hid V2_b
    have q2_x_0 := V2_x.c 0 _ rfl
    have q2_x_1 := V2_x.c 1 _ rfl
    have q2_x_2 := V2_x.c 2 _ rfl
    have q2_x_3 := V2_x.c 3 _ rfl
    have f2_x := V2_x.2.2; have L2_x := V2_x.lt; have N2_x := Nat.ne_of_gt L2_x; have M2_x := Nat.ne_of_lt L2_x
    have HV2_x := Lib.hid V2_x
    have q2_y_0 := V2_y.c 0 _ rfl
    have q2_y_1 := V2_y.c 1 _ rfl
    have q2_y_2 := V2_y.c 2 _ rfl
    have q2_y_3 := V2_y.c 3 _ rfl
    have f2_y := V2_y.2.2; have L2_y := V2_y.lt; have N2_y := Nat.ne_of_gt L2_y; have M2_y := Nat.ne_of_lt L2_y
    have HV2_y := Lib.hid V2_y
    have q2_v_0 := V2_v.c 0 _ rfl
    have q2_v_1 := V2_v.c 1 _ rfl
    have f2_v := V2_v.2.2; have L2_v := V2_v.lt; have N2_v := Nat.ne_of_gt L2_v; have M2_v := Nat.ne_of_lt L2_v
    have HV2_v := Lib.hid V2_v
    have q2_c_0 := V2_c.c 0 _ rfl
    have f2_c := V2_c.2.2; have L2_c := V2_c.lt; have N2_c := Nat.ne_of_gt L2_c; have M2_c := Nat.ne_of_lt L2_c
    have HV2_c := Lib.hid V2_c
    have S2 := G2.size; clear hb
    go_wp2_with fail
    refine (try_c 51 #[.pointer (some ⟨w.heap.size, 0, none⟩), .pointer (some ⟨w2.heap.size + 1, 0, none⟩)] _ (0) (usBx (w2.heap.size + 1) (.ok q)) (fun _ => rfl) ?_ ?_).mono ?_
    · intro u hu; (try simp only [List.mem_append] at hu); (repeat' (obtain hu | hu := (hu : _ ∨ _))); all_goals (first | rw [M.usBx_block hu] | rw [M.usV_block hu] | rw [M.usI_block hu] | rw [M.usHt_block hu] | rw [M.usBd_block hu] | rw [M.cell_block1 hu] | (exfalso; simp at hu; done)); all_goals ((try simp [go_sem]) <;> omega)
    · intro w1' hb; exact (cloTells8 _ _ b hB _ _ _ _ (.ok q) hP.out w1' (M.Var.mono (b := w.heap.size) (cs := #[.int .i64 b.shape, .int .i64 b.sx, .int .i64 b.sy, .int .i64 b.mass, .int .i64 b.px, .int .i64 b.py, .int .i64 b.mx, .int .i64 b.my]) (by (repeat (first | (with_reducible assumption) | (refine M.var_alloc' _ _ _ ?_; first | rfl | (simp [go_sem]; done)) | (with_reducible refine M.Var.alloc ?_ _) | (with_reducible refine M.Var.drewN ?_ _) | (with_reducible refine M.Var.drew ?_) | (with_reducible refine M.Var.far ?_ _ _ ?h; case h => (first | omega | ((try simp [go_sem]) <;> omega))) | fail))) hb) (M.Var.mono (b := w2.heap.size + 1) (cs := #[.int .i64 0, .int .i64 0, .int .i64 0, .int .i64 0]) (by (repeat (first | (with_reducible assumption) | (refine M.var_alloc' _ _ _ ?_; first | rfl | (simp [go_sem]; done)) | (with_reducible refine M.Var.alloc ?_ _) | (with_reducible refine M.Var.drewN ?_ _) | (with_reducible refine M.Var.drew ?_) | (with_reducible refine M.Var.far ?_ _ _ ?h; case h => (first | omega | ((try simp [go_sem]) <;> omega))) | fail))) hb)).mono fun e w' h => h
    rintro en w3 ⟨rfl, hb⟩
    have G3 : Below w.heap.size w w3 := Below.trans (M.below_sets_own (usBx (w2.heap.size + 1) (.ok q)) (by (repeat (with_reducible refine M.Below.drewN ?_ _)); go_grown) (by intro u hu; (try simp only [List.mem_append] at hu); (repeat' (obtain hu | hu := (hu : _ ∨ _))); all_goals (first | rw [M.usBx_block hu] | rw [M.usV_block hu] | rw [M.usI_block hu] | rw [M.usHt_block hu] | rw [M.usBd_block hu] | rw [M.cell_block1 hu] | (exfalso; simp at hu; done)); all_goals ((try simp [go_sem]) <;> omega))) (hb.mono (by go_size))
    have V3_b : M.Var w3 (w.heap.size) #[.int .i64 b.shape, .int .i64 b.sx, .int .i64 b.sy, .int .i64 b.mass, .int .i64 b.px, .int .i64 b.py, .int .i64 b.mx, .int .i64 b.my] := M.Var.mono' (u := M.sets _ (usBx (w2.heap.size + 1) (.ok q))) (by (try simp only [M.sets_append]); exact (M.var_sets_far (usBx (w2.heap.size + 1) (.ok q)) (by (repeat (first | (with_reducible assumption) | (refine M.var_alloc' _ _ _ ?_; first | rfl | (simp [go_sem]; done)) | (with_reducible refine M.Var.alloc ?_ _) | (with_reducible refine M.Var.drewN ?_ _) | (with_reducible refine M.Var.drew ?_) | (with_reducible refine M.Var.far ?_ _ _ ?h; case h => (first | omega | ((try simp [go_sem]) <;> omega))) | fail)) : M.Var _ (w.heap.size) #[.int .i64 b.shape, .int .i64 b.sx, .int .i64 b.sy, .int .i64 b.mass, .int .i64 b.px, .int .i64 b.py, .int .i64 b.mx, .int .i64 b.my]) (by intro u hu; all_goals (first | rw [M.usBx_block hu] | rw [M.usV_block hu] | rw [M.usI_block hu] | rw [M.usHt_block hu] | rw [M.usBd_block hu] | rw [M.cell_block1 hu] | (exfalso; simp at hu; done)); all_goals ((try simp [go_sem]) <;> omega)))) (M.sets_size _ _) hb
    have V3_x : M.Var w3 (w.heap.size + 1) #[.int .i64 x.lx, .int .i64 x.ly, .int .i64 x.hx, .int .i64 x.hy] := M.Var.mono' (u := M.sets _ (usBx (w2.heap.size + 1) (.ok q))) (by (try simp only [M.sets_append]); exact (M.var_sets_far (usBx (w2.heap.size + 1) (.ok q)) (by (repeat (first | (with_reducible assumption) | (refine M.var_alloc' _ _ _ ?_; first | rfl | (simp [go_sem]; done)) | (with_reducible refine M.Var.alloc ?_ _) | (with_reducible refine M.Var.drewN ?_ _) | (with_reducible refine M.Var.drew ?_) | (with_reducible refine M.Var.far ?_ _ _ ?h; case h => (first | omega | ((try simp [go_sem]) <;> omega))) | fail)) : M.Var _ (w.heap.size + 1) #[.int .i64 x.lx, .int .i64 x.ly, .int .i64 x.hx, .int .i64 x.hy]) (by intro u hu; all_goals (first | rw [M.usBx_block hu] | rw [M.usV_block hu] | rw [M.usI_block hu] | rw [M.usHt_block hu] | rw [M.usBd_block hu] | rw [M.cell_block1 hu] | (exfalso; simp at hu; done)); all_goals ((try simp [go_sem]) <;> omega)))) (M.sets_size _ _) hb
    have V3_y : M.Var w3 (w.heap.size + 1 + 1) #[.int .i64 y.lx, .int .i64 y.ly, .int .i64 y.hx, .int .i64 y.hy] := M.Var.mono' (u := M.sets _ (usBx (w2.heap.size + 1) (.ok q))) (by (try simp only [M.sets_append]); exact (M.var_sets_far (usBx (w2.heap.size + 1) (.ok q)) (by (repeat (first | (with_reducible assumption) | (refine M.var_alloc' _ _ _ ?_; first | rfl | (simp [go_sem]; done)) | (with_reducible refine M.Var.alloc ?_ _) | (with_reducible refine M.Var.drewN ?_ _) | (with_reducible refine M.Var.drew ?_) | (with_reducible refine M.Var.far ?_ _ _ ?h; case h => (first | omega | ((try simp [go_sem]) <;> omega))) | fail)) : M.Var _ (w.heap.size + 1 + 1) #[.int .i64 y.lx, .int .i64 y.ly, .int .i64 y.hx, .int .i64 y.hy]) (by intro u hu; all_goals (first | rw [M.usBx_block hu] | rw [M.usV_block hu] | rw [M.usI_block hu] | rw [M.usHt_block hu] | rw [M.usBd_block hu] | rw [M.cell_block1 hu] | (exfalso; simp at hu; done)); all_goals ((try simp [go_sem]) <;> omega)))) (M.sets_size _ _) hb
    have V3_v : M.Var w3 (w.heap.size + 1 + 1 + 1) #[.int .i64 v1, .int .i64 v2] := M.Var.mono' (u := M.sets _ (usBx (w2.heap.size + 1) (.ok q))) (by (try simp only [M.sets_append]); exact (M.var_sets_far (usBx (w2.heap.size + 1) (.ok q)) (by (repeat (first | (with_reducible assumption) | (refine M.var_alloc' _ _ _ ?_; first | rfl | (simp [go_sem]; done)) | (with_reducible refine M.Var.alloc ?_ _) | (with_reducible refine M.Var.drewN ?_ _) | (with_reducible refine M.Var.drew ?_) | (with_reducible refine M.Var.far ?_ _ _ ?h; case h => (first | omega | ((try simp [go_sem]) <;> omega))) | fail)) : M.Var _ (w.heap.size + 1 + 1 + 1) #[.int .i64 v1, .int .i64 v2]) (by intro u hu; all_goals (first | rw [M.usBx_block hu] | rw [M.usV_block hu] | rw [M.usI_block hu] | rw [M.usHt_block hu] | rw [M.usBd_block hu] | rw [M.cell_block1 hu] | (exfalso; simp at hu; done)); all_goals ((try simp [go_sem]) <;> omega)))) (M.sets_size _ _) hb
    have V3_c : M.Var w3 (w1.heap.size) #[.int .i64 0] := M.Var.mono' (u := M.sets _ (usBx (w2.heap.size + 1) (.ok q))) (by (try simp only [M.sets_append]); exact (M.var_sets_far (usBx (w2.heap.size + 1) (.ok q)) (by (repeat (first | (with_reducible assumption) | (refine M.var_alloc' _ _ _ ?_; first | rfl | (simp [go_sem]; done)) | (with_reducible refine M.Var.alloc ?_ _) | (with_reducible refine M.Var.drewN ?_ _) | (with_reducible refine M.Var.drew ?_) | (with_reducible refine M.Var.far ?_ _ _ ?h; case h => (first | omega | ((try simp [go_sem]) <;> omega))) | fail)) : M.Var _ (w1.heap.size) #[.int .i64 0]) (by intro u hu; all_goals (first | rw [M.usBx_block hu] | rw [M.usV_block hu] | rw [M.usI_block hu] | rw [M.usHt_block hu] | rw [M.usBd_block hu] | rw [M.cell_block1 hu] | (exfalso; simp at hu; done)); all_goals ((try simp [go_sem]) <;> omega)))) (M.sets_size _ _) hb
    have V3_s : M.Var w3 (w2.heap.size) #[.int .i64 q.lx, .int .i64 q.ly, .int .i64 q.hx, .int .i64 q.hy] := M.Var.mono' (u := M.sets _ (usBx (w2.heap.size + 1) (.ok q))) (by (try simp only [M.sets_append]); exact (M.var_sets_far (usBx (w2.heap.size + 1) (.ok q)) (by (repeat (first | (with_reducible assumption) | (refine M.var_alloc' _ _ _ ?_; first | rfl | (simp [go_sem]; done)) | (with_reducible refine M.Var.alloc ?_ _) | (with_reducible refine M.Var.drewN ?_ _) | (with_reducible refine M.Var.drew ?_) | (with_reducible refine M.Var.far ?_ _ _ ?h; case h => (first | omega | ((try simp [go_sem]) <;> omega))) | fail)) : M.Var _ (w2.heap.size) #[.int .i64 q.lx, .int .i64 q.ly, .int .i64 q.hx, .int .i64 q.hy]) (by intro u hu; all_goals (first | rw [M.usBx_block hu] | rw [M.usV_block hu] | rw [M.usI_block hu] | rw [M.usHt_block hu] | rw [M.usBd_block hu] | rw [M.cell_block1 hu] | (exfalso; simp at hu; done)); all_goals ((try simp [go_sem]) <;> omega)))) (M.sets_size _ _) hb
    have V3_o : M.Var w3 (w2.heap.size + 1) #[.int .i64 q.lx, .int .i64 q.ly, .int .i64 q.hx, .int .i64 q.hy] := M.Var.mono' (u := M.sets _ (usBx (w2.heap.size + 1) (.ok q))) (by (try simp only [M.sets_append]); exact (M.var_setBx (by (repeat (first | (with_reducible assumption) | (refine M.var_alloc' _ _ _ ?_; first | rfl | (simp [go_sem]; done)) | (with_reducible refine M.Var.alloc ?_ _) | (with_reducible refine M.Var.drewN ?_ _) | (with_reducible refine M.Var.drew ?_) | (with_reducible refine M.Var.far ?_ _ _ ?h; case h => (first | omega | ((try simp [go_sem]) <;> omega))) | fail)) : M.Var _ (w2.heap.size + 1) #[.int .i64 0, .int .i64 0, .int .i64 0, .int .i64 0]) _ _ _ _)) (M.sets_size _ _) hb
    have q3_b_0 := V3_b.c 0 _ rfl
    have q3_b_1 := V3_b.c 1 _ rfl
    have q3_b_2 := V3_b.c 2 _ rfl
    have q3_b_3 := V3_b.c 3 _ rfl
    have q3_b_4 := V3_b.c 4 _ rfl
    have q3_b_5 := V3_b.c 5 _ rfl
    have q3_b_6 := V3_b.c 6 _ rfl
    have q3_b_7 := V3_b.c 7 _ rfl
    have f3_b := V3_b.2.2; have L3_b := V3_b.lt; have N3_b := Nat.ne_of_gt L3_b; have M3_b := Nat.ne_of_lt L3_b
    have HV3_b := Lib.hid V3_b
    have q3_x_0 := V3_x.c 0 _ rfl
    have q3_x_1 := V3_x.c 1 _ rfl
    have q3_x_2 := V3_x.c 2 _ rfl
    have q3_x_3 := V3_x.c 3 _ rfl
    have f3_x := V3_x.2.2; have L3_x := V3_x.lt; have N3_x := Nat.ne_of_gt L3_x; have M3_x := Nat.ne_of_lt L3_x
    have HV3_x := Lib.hid V3_x
    have q3_y_0 := V3_y.c 0 _ rfl
    have q3_y_1 := V3_y.c 1 _ rfl
    have q3_y_2 := V3_y.c 2 _ rfl
    have q3_y_3 := V3_y.c 3 _ rfl
    have f3_y := V3_y.2.2; have L3_y := V3_y.lt; have N3_y := Nat.ne_of_gt L3_y; have M3_y := Nat.ne_of_lt L3_y
    have HV3_y := Lib.hid V3_y
    have q3_v_0 := V3_v.c 0 _ rfl
    have q3_v_1 := V3_v.c 1 _ rfl
    have f3_v := V3_v.2.2; have L3_v := V3_v.lt; have N3_v := Nat.ne_of_gt L3_v; have M3_v := Nat.ne_of_lt L3_v
    have HV3_v := Lib.hid V3_v
    have q3_c_0 := V3_c.c 0 _ rfl
    have f3_c := V3_c.2.2; have L3_c := V3_c.lt; have N3_c := Nat.ne_of_gt L3_c; have M3_c := Nat.ne_of_lt L3_c
    have HV3_c := Lib.hid V3_c
    have q3_s_0 := V3_s.c 0 _ rfl
    have q3_s_1 := V3_s.c 1 _ rfl
    have q3_s_2 := V3_s.c 2 _ rfl
    have q3_s_3 := V3_s.c 3 _ rfl
    have f3_s := V3_s.2.2; have L3_s := V3_s.lt; have N3_s := Nat.ne_of_gt L3_s; have M3_s := Nat.ne_of_lt L3_s
    have HV3_s := Lib.hid V3_s
    have q3_o_0 := V3_o.c 0 _ rfl
    have q3_o_1 := V3_o.c 1 _ rfl
    have q3_o_2 := V3_o.c 2 _ rfl
    have q3_o_3 := V3_o.c 3 _ rfl
    have f3_o := V3_o.2.2; have L3_o := V3_o.lt; have N3_o := Nat.ne_of_gt L3_o; have M3_o := Nat.ne_of_lt L3_o
    have HV3_o := Lib.hid V3_o
    have S3 := G3.size; clear hb
    go_wp2_with fail
    refine M.wp_region_later (fun w' => M.Var w' (w.heap.size + 1) #[.int .i64 x.lx, .int .i64 x.ly, .int .i64 x.hx, .int .i64 x.hy] ∧ M.Var w' (w.heap.size + 1 + 1) #[.int .i64 y.lx, .int .i64 y.ly, .int .i64 y.hx, .int .i64 y.hy] ∧ M.Var w' (w.heap.size + 1 + 1 + 1) #[.int .i64 v1, .int .i64 v2] ∧ M.Var w' (w1.heap.size) #[.int .i64 0] ∧ M.Var w' (w2.heap.size) #[.int .i64 q.lx, .int .i64 q.ly, .int .i64 q.hx, .int .i64 q.hy] ∧ M.Var w' (w2.heap.size + 1) #[.int .i64 q.lx, .int .i64 q.ly, .int .i64 q.hx, .int .i64 q.hy] ∧ M.Var w' (w3.heap.size) #[.int .i64 (min x.lx y.lx), .int .i64 (min x.ly y.ly), .int .i64 (max x.hx y.hx), .int .i64 (max x.hy y.hy)] ∧ True) (by kernel_rfl) (by kernel_rfl) (fun w' hb => ⟨M.Var.mono (by (repeat (first | (with_reducible assumption) | (refine M.var_alloc' _ _ _ ?_; first | rfl | (simp [go_sem]; done)) | (with_reducible refine M.Var.alloc ?_ _) | (with_reducible refine M.Var.drewN ?_ _) | (with_reducible refine M.Var.drew ?_) | (with_reducible refine M.Var.far ?_ _ _ ?h; case h => (first | omega | ((try simp [go_sem]) <;> omega))) | fail)) : M.Var _ (w.heap.size + 1) #[.int .i64 x.lx, .int .i64 x.ly, .int .i64 x.hx, .int .i64 x.hy]) hb, M.Var.mono (by (repeat (first | (with_reducible assumption) | (refine M.var_alloc' _ _ _ ?_; first | rfl | (simp [go_sem]; done)) | (with_reducible refine M.Var.alloc ?_ _) | (with_reducible refine M.Var.drewN ?_ _) | (with_reducible refine M.Var.drew ?_) | (with_reducible refine M.Var.far ?_ _ _ ?h; case h => (first | omega | ((try simp [go_sem]) <;> omega))) | fail)) : M.Var _ (w.heap.size + 1 + 1) #[.int .i64 y.lx, .int .i64 y.ly, .int .i64 y.hx, .int .i64 y.hy]) hb, M.Var.mono (by (repeat (first | (with_reducible assumption) | (refine M.var_alloc' _ _ _ ?_; first | rfl | (simp [go_sem]; done)) | (with_reducible refine M.Var.alloc ?_ _) | (with_reducible refine M.Var.drewN ?_ _) | (with_reducible refine M.Var.drew ?_) | (with_reducible refine M.Var.far ?_ _ _ ?h; case h => (first | omega | ((try simp [go_sem]) <;> omega))) | fail)) : M.Var _ (w.heap.size + 1 + 1 + 1) #[.int .i64 v1, .int .i64 v2]) hb, M.Var.mono (by (repeat (first | (with_reducible assumption) | (refine M.var_alloc' _ _ _ ?_; first | rfl | (simp [go_sem]; done)) | (with_reducible refine M.Var.alloc ?_ _) | (with_reducible refine M.Var.drewN ?_ _) | (with_reducible refine M.Var.drew ?_) | (with_reducible refine M.Var.far ?_ _ _ ?h; case h => (first | omega | ((try simp [go_sem]) <;> omega))) | fail)) : M.Var _ (w1.heap.size) #[.int .i64 0]) hb, M.Var.mono (by (repeat (first | (with_reducible assumption) | (refine M.var_alloc' _ _ _ ?_; first | rfl | (simp [go_sem]; done)) | (with_reducible refine M.Var.alloc ?_ _) | (with_reducible refine M.Var.drewN ?_ _) | (with_reducible refine M.Var.drew ?_) | (with_reducible refine M.Var.far ?_ _ _ ?h; case h => (first | omega | ((try simp [go_sem]) <;> omega))) | fail)) : M.Var _ (w2.heap.size) #[.int .i64 q.lx, .int .i64 q.ly, .int .i64 q.hx, .int .i64 q.hy]) hb, M.Var.mono (by (repeat (first | (with_reducible assumption) | (refine M.var_alloc' _ _ _ ?_; first | rfl | (simp [go_sem]; done)) | (with_reducible refine M.Var.alloc ?_ _) | (with_reducible refine M.Var.drewN ?_ _) | (with_reducible refine M.Var.drew ?_) | (with_reducible refine M.Var.far ?_ _ _ ?h; case h => (first | omega | ((try simp [go_sem]) <;> omega))) | fail)) : M.Var _ (w2.heap.size + 1) #[.int .i64 q.lx, .int .i64 q.ly, .int .i64 q.hx, .int .i64 q.hy]) hb, M.Var.mono (by (repeat (first | (with_reducible assumption) | (refine M.var_alloc' _ _ _ ?_; first | rfl | (simp [go_sem]; done)) | (with_reducible refine M.Var.alloc ?_ _) | (with_reducible refine M.Var.drewN ?_ _) | (with_reducible refine M.Var.drew ?_) | (with_reducible refine M.Var.far ?_ _ _ ?h; case h => (first | omega | ((try simp [go_sem]) <;> omega))) | fail)) : M.Var _ (w3.heap.size) #[.int .i64 (min x.lx y.lx), .int .i64 (min x.ly y.ly), .int .i64 (max x.hx y.hx), .int .i64 (max x.hy y.hy)]) hb, trivial⟩) ?_
    intro hS
    have z4_x_0 := fun p => (hS p).1.c 0 _ rfl
    have z4_x_1 := fun p => (hS p).1.c 1 _ rfl
    have z4_x_2 := fun p => (hS p).1.c 2 _ rfl
    have z4_x_3 := fun p => (hS p).1.c 3 _ rfl
    have z4_y_0 := fun p => (hS p).2.1.c 0 _ rfl
    have z4_y_1 := fun p => (hS p).2.1.c 1 _ rfl
    have z4_y_2 := fun p => (hS p).2.1.c 2 _ rfl
    have z4_y_3 := fun p => (hS p).2.1.c 3 _ rfl
    have z4_v_0 := fun p => (hS p).2.2.1.c 0 _ rfl
    have z4_v_1 := fun p => (hS p).2.2.1.c 1 _ rfl
    have z4_c_0 := fun p => (hS p).2.2.2.1.c 0 _ rfl
    have z4_s_0 := fun p => (hS p).2.2.2.2.1.c 0 _ rfl
    have z4_s_1 := fun p => (hS p).2.2.2.2.1.c 1 _ rfl
    have z4_s_2 := fun p => (hS p).2.2.2.2.1.c 2 _ rfl
    have z4_s_3 := fun p => (hS p).2.2.2.2.1.c 3 _ rfl
    have z4_o_0 := fun p => (hS p).2.2.2.2.2.1.c 0 _ rfl
    have z4_o_1 := fun p => (hS p).2.2.2.2.2.1.c 1 _ rfl
    have z4_o_2 := fun p => (hS p).2.2.2.2.2.1.c 2 _ rfl
    have z4_o_3 := fun p => (hS p).2.2.2.2.2.1.c 3 _ rfl
    have z4_t_0 := fun p => (hS p).2.2.2.2.2.2.1.c 0 _ rfl
    have z4_t_1 := fun p => (hS p).2.2.2.2.2.2.1.c 1 _ rfl
    have z4_t_2 := fun p => (hS p).2.2.2.2.2.2.1.c 2 _ rfl
    have z4_t_3 := fun p => (hS p).2.2.2.2.2.2.1.c 3 _ rfl
    have HS := Lib.hid hS; clear hS
    repeat (go_big_quiet_step ((first
          | (go_at_call 42; with_reducible exact M.later_of (C1.out _))
          | (go_at_call 52; with_reducible exact M.later_of (C2.out _))
          | (go_at_call 53; with_reducible exact M.later_of (C3.out _))
          | (go_at_call 43; with_reducible exact M.later_of (C4.out _))
          | (go_at_call 44; with_reducible exact M.later_of (C5.out _))
          | (go_at_call 54; with_reducible exact M.later_of (C6.out _))
      )))
    refine wpQuiet_nil ?_
    intro w4 hw'
    obtain ⟨pL, hL⟩ := hw'
    have hb := pL.h; rw [← hL] at hb; clear hL pL
    have G4 : Below w.heap.size w w4 := Below.trans (by (repeat (with_reducible refine M.Below.drewN ?_ _)); go_grown) (hb.mono (by go_size))
    have V4_b : M.Var w4 (w.heap.size) #[.int .i64 b.shape, .int .i64 b.sx, .int .i64 b.sy, .int .i64 b.mass, .int .i64 b.px, .int .i64 b.py, .int .i64 b.mx, .int .i64 b.my] := M.Var.mono (by (repeat (first | (with_reducible assumption) | (refine M.var_alloc' _ _ _ ?_; first | rfl | (simp [go_sem]; done)) | (with_reducible refine M.Var.alloc ?_ _) | (with_reducible refine M.Var.drewN ?_ _) | (with_reducible refine M.Var.drew ?_) | (with_reducible refine M.Var.far ?_ _ _ ?h; case h => (first | omega | ((try simp [go_sem]) <;> omega))) | fail))) hb
    have V4_x : M.Var w4 (w.heap.size + 1) #[.int .i64 x.lx, .int .i64 x.ly, .int .i64 x.hx, .int .i64 x.hy] := M.Var.mono (by (repeat (first | (with_reducible assumption) | (refine M.var_alloc' _ _ _ ?_; first | rfl | (simp [go_sem]; done)) | (with_reducible refine M.Var.alloc ?_ _) | (with_reducible refine M.Var.drewN ?_ _) | (with_reducible refine M.Var.drew ?_) | (with_reducible refine M.Var.far ?_ _ _ ?h; case h => (first | omega | ((try simp [go_sem]) <;> omega))) | fail))) hb
    have V4_y : M.Var w4 (w.heap.size + 1 + 1) #[.int .i64 y.lx, .int .i64 y.ly, .int .i64 y.hx, .int .i64 y.hy] := M.Var.mono (by (repeat (first | (with_reducible assumption) | (refine M.var_alloc' _ _ _ ?_; first | rfl | (simp [go_sem]; done)) | (with_reducible refine M.Var.alloc ?_ _) | (with_reducible refine M.Var.drewN ?_ _) | (with_reducible refine M.Var.drew ?_) | (with_reducible refine M.Var.far ?_ _ _ ?h; case h => (first | omega | ((try simp [go_sem]) <;> omega))) | fail))) hb
    have V4_v : M.Var w4 (w.heap.size + 1 + 1 + 1) #[.int .i64 v1, .int .i64 v2] := M.Var.mono (by (repeat (first | (with_reducible assumption) | (refine M.var_alloc' _ _ _ ?_; first | rfl | (simp [go_sem]; done)) | (with_reducible refine M.Var.alloc ?_ _) | (with_reducible refine M.Var.drewN ?_ _) | (with_reducible refine M.Var.drew ?_) | (with_reducible refine M.Var.far ?_ _ _ ?h; case h => (first | omega | ((try simp [go_sem]) <;> omega))) | fail))) hb
    have V4_c : M.Var w4 (w1.heap.size) #[.int .i64 0] := M.Var.mono (by (repeat (first | (with_reducible assumption) | (refine M.var_alloc' _ _ _ ?_; first | rfl | (simp [go_sem]; done)) | (with_reducible refine M.Var.alloc ?_ _) | (with_reducible refine M.Var.drewN ?_ _) | (with_reducible refine M.Var.drew ?_) | (with_reducible refine M.Var.far ?_ _ _ ?h; case h => (first | omega | ((try simp [go_sem]) <;> omega))) | fail))) hb
    have V4_s : M.Var w4 (w2.heap.size) #[.int .i64 q.lx, .int .i64 q.ly, .int .i64 q.hx, .int .i64 q.hy] := M.Var.mono (by (repeat (first | (with_reducible assumption) | (refine M.var_alloc' _ _ _ ?_; first | rfl | (simp [go_sem]; done)) | (with_reducible refine M.Var.alloc ?_ _) | (with_reducible refine M.Var.drewN ?_ _) | (with_reducible refine M.Var.drew ?_) | (with_reducible refine M.Var.far ?_ _ _ ?h; case h => (first | omega | ((try simp [go_sem]) <;> omega))) | fail))) hb
    have V4_o : M.Var w4 (w2.heap.size + 1) #[.int .i64 q.lx, .int .i64 q.ly, .int .i64 q.hx, .int .i64 q.hy] := M.Var.mono (by (repeat (first | (with_reducible assumption) | (refine M.var_alloc' _ _ _ ?_; first | rfl | (simp [go_sem]; done)) | (with_reducible refine M.Var.alloc ?_ _) | (with_reducible refine M.Var.drewN ?_ _) | (with_reducible refine M.Var.drew ?_) | (with_reducible refine M.Var.far ?_ _ _ ?h; case h => (first | omega | ((try simp [go_sem]) <;> omega))) | fail))) hb
    have V4_t : M.Var w4 (w3.heap.size) #[.int .i64 (min x.lx y.lx), .int .i64 (min x.ly y.ly), .int .i64 (max x.hx y.hx), .int .i64 (max x.hy y.hy)] := M.Var.mono (by (repeat (first | (with_reducible assumption) | (refine M.var_alloc' _ _ _ ?_; first | rfl | (simp [go_sem]; done)) | (with_reducible refine M.Var.alloc ?_ _) | (with_reducible refine M.Var.drewN ?_ _) | (with_reducible refine M.Var.drew ?_) | (with_reducible refine M.Var.far ?_ _ _ ?h; case h => (first | omega | ((try simp [go_sem]) <;> omega))) | fail))) hb
    have q4_b_0 := V4_b.c 0 _ rfl
    have q4_b_1 := V4_b.c 1 _ rfl
    have q4_b_2 := V4_b.c 2 _ rfl
    have q4_b_3 := V4_b.c 3 _ rfl
    have q4_b_4 := V4_b.c 4 _ rfl
    have q4_b_5 := V4_b.c 5 _ rfl
    have q4_b_6 := V4_b.c 6 _ rfl
    have q4_b_7 := V4_b.c 7 _ rfl
    have f4_b := V4_b.2.2; have L4_b := V4_b.lt; have N4_b := Nat.ne_of_gt L4_b; have M4_b := Nat.ne_of_lt L4_b
    have HV4_b := Lib.hid V4_b
    have q4_x_0 := V4_x.c 0 _ rfl
    have q4_x_1 := V4_x.c 1 _ rfl
    have q4_x_2 := V4_x.c 2 _ rfl
    have q4_x_3 := V4_x.c 3 _ rfl
    have f4_x := V4_x.2.2; have L4_x := V4_x.lt; have N4_x := Nat.ne_of_gt L4_x; have M4_x := Nat.ne_of_lt L4_x
    have HV4_x := Lib.hid V4_x
    have q4_y_0 := V4_y.c 0 _ rfl
    have q4_y_1 := V4_y.c 1 _ rfl
    have q4_y_2 := V4_y.c 2 _ rfl
    have q4_y_3 := V4_y.c 3 _ rfl
    have f4_y := V4_y.2.2; have L4_y := V4_y.lt; have N4_y := Nat.ne_of_gt L4_y; have M4_y := Nat.ne_of_lt L4_y
    have HV4_y := Lib.hid V4_y
    have q4_v_0 := V4_v.c 0 _ rfl
    have q4_v_1 := V4_v.c 1 _ rfl
    have f4_v := V4_v.2.2; have L4_v := V4_v.lt; have N4_v := Nat.ne_of_gt L4_v; have M4_v := Nat.ne_of_lt L4_v
    have HV4_v := Lib.hid V4_v
    have q4_c_0 := V4_c.c 0 _ rfl
    have f4_c := V4_c.2.2; have L4_c := V4_c.lt; have N4_c := Nat.ne_of_gt L4_c; have M4_c := Nat.ne_of_lt L4_c
    have HV4_c := Lib.hid V4_c
    have q4_s_0 := V4_s.c 0 _ rfl
    have q4_s_1 := V4_s.c 1 _ rfl
    have q4_s_2 := V4_s.c 2 _ rfl
    have q4_s_3 := V4_s.c 3 _ rfl
    have f4_s := V4_s.2.2; have L4_s := V4_s.lt; have N4_s := Nat.ne_of_gt L4_s; have M4_s := Nat.ne_of_lt L4_s
    have HV4_s := Lib.hid V4_s
    have q4_o_0 := V4_o.c 0 _ rfl
    have q4_o_1 := V4_o.c 1 _ rfl
    have q4_o_2 := V4_o.c 2 _ rfl
    have q4_o_3 := V4_o.c 3 _ rfl
    have f4_o := V4_o.2.2; have L4_o := V4_o.lt; have N4_o := Nat.ne_of_gt L4_o; have M4_o := Nat.ne_of_lt L4_o
    have HV4_o := Lib.hid V4_o
    have q4_t_0 := V4_t.c 0 _ rfl
    have q4_t_1 := V4_t.c 1 _ rfl
    have q4_t_2 := V4_t.c 2 _ rfl
    have q4_t_3 := V4_t.c 3 _ rfl
    have f4_t := V4_t.2.2; have L4_t := V4_t.lt; have N4_t := Nat.ne_of_gt L4_t; have M4_t := Nat.ne_of_lt L4_t
    have HV4_t := Lib.hid V4_t
    have S4 := G4.size; clear hb
    clear z4_x_0 z4_x_1 z4_x_2 z4_x_3 z4_y_0 z4_y_1 z4_y_2 z4_y_3 z4_v_0 z4_v_1 z4_c_0 z4_s_0 z4_s_1 z4_s_2 z4_s_3 z4_o_0 z4_o_1 z4_o_2 z4_o_3 z4_t_0 z4_t_1 z4_t_2 z4_t_3 HS
    go_wp2_with fail
    go_ret
    exact ⟨rfl, by (repeat (with_reducible refine M.Below.drewN ?_ _)); go_grown⟩
  · skip
    have C4 := Lib.hid c4
    clear c4
    have k := decide_eq_false a2
    go_enter Try.func6, Try.ntmps6
    go_wp2_with fail
    (with_reducible refine (c0.out _).mono ?_); rintro en w1 ⟨rfl, hb⟩
    have G1 : Below w.heap.size w w1 := Below.trans (by (repeat (with_reducible refine M.Below.drewN ?_ _)); go_grown) (hb.mono (by go_size))
    have V1_b : M.Var w1 (w.heap.size) #[.int .i64 b.shape, .int .i64 b.sx, .int .i64 b.sy, .int .i64 b.mass, .int .i64 b.px, .int .i64 b.py, .int .i64 b.mx, .int .i64 b.my] := M.Var.mono (by (repeat (first | (with_reducible assumption) | (refine M.var_alloc' _ _ _ ?_; first | rfl | (simp [go_sem]; done)) | (with_reducible refine M.Var.alloc ?_ _) | (with_reducible refine M.Var.drewN ?_ _) | (with_reducible refine M.Var.drew ?_) | (with_reducible refine M.Var.far ?_ _ _ ?h; case h => (first | omega | ((try simp [go_sem]) <;> omega))) | fail))) hb
    have V1_x : M.Var w1 (w.heap.size + 1) #[.int .i64 x.lx, .int .i64 x.ly, .int .i64 x.hx, .int .i64 x.hy] := M.Var.mono (by (repeat (first | (with_reducible assumption) | (refine M.var_alloc' _ _ _ ?_; first | rfl | (simp [go_sem]; done)) | (with_reducible refine M.Var.alloc ?_ _) | (with_reducible refine M.Var.drewN ?_ _) | (with_reducible refine M.Var.drew ?_) | (with_reducible refine M.Var.far ?_ _ _ ?h; case h => (first | omega | ((try simp [go_sem]) <;> omega))) | fail))) hb
    have V1_y : M.Var w1 (w.heap.size + 1 + 1) #[.int .i64 y.lx, .int .i64 y.ly, .int .i64 y.hx, .int .i64 y.hy] := M.Var.mono (by (repeat (first | (with_reducible assumption) | (refine M.var_alloc' _ _ _ ?_; first | rfl | (simp [go_sem]; done)) | (with_reducible refine M.Var.alloc ?_ _) | (with_reducible refine M.Var.drewN ?_ _) | (with_reducible refine M.Var.drew ?_) | (with_reducible refine M.Var.far ?_ _ _ ?h; case h => (first | omega | ((try simp [go_sem]) <;> omega))) | fail))) hb
    have V1_v : M.Var w1 (w.heap.size + 1 + 1 + 1) #[.int .i64 v1, .int .i64 v2] := M.Var.mono (by (repeat (first | (with_reducible assumption) | (refine M.var_alloc' _ _ _ ?_; first | rfl | (simp [go_sem]; done)) | (with_reducible refine M.Var.alloc ?_ _) | (with_reducible refine M.Var.drewN ?_ _) | (with_reducible refine M.Var.drew ?_) | (with_reducible refine M.Var.far ?_ _ _ ?h; case h => (first | omega | ((try simp [go_sem]) <;> omega))) | fail))) hb
    have q1_b_0 := V1_b.c 0 _ rfl
    have q1_b_1 := V1_b.c 1 _ rfl
    have q1_b_2 := V1_b.c 2 _ rfl
    have q1_b_3 := V1_b.c 3 _ rfl
    have q1_b_4 := V1_b.c 4 _ rfl
    have q1_b_5 := V1_b.c 5 _ rfl
    have q1_b_6 := V1_b.c 6 _ rfl
    have q1_b_7 := V1_b.c 7 _ rfl
    have f1_b := V1_b.2.2; have L1_b := V1_b.lt; have N1_b := Nat.ne_of_gt L1_b; have M1_b := Nat.ne_of_lt L1_b
    have HV1_b := Lib.hid V1_b
    have q1_x_0 := V1_x.c 0 _ rfl
    have q1_x_1 := V1_x.c 1 _ rfl
    have q1_x_2 := V1_x.c 2 _ rfl
    have q1_x_3 := V1_x.c 3 _ rfl
    have f1_x := V1_x.2.2; have L1_x := V1_x.lt; have N1_x := Nat.ne_of_gt L1_x; have M1_x := Nat.ne_of_lt L1_x
    have HV1_x := Lib.hid V1_x
    have q1_y_0 := V1_y.c 0 _ rfl
    have q1_y_1 := V1_y.c 1 _ rfl
    have q1_y_2 := V1_y.c 2 _ rfl
    have q1_y_3 := V1_y.c 3 _ rfl
    have f1_y := V1_y.2.2; have L1_y := V1_y.lt; have N1_y := Nat.ne_of_gt L1_y; have M1_y := Nat.ne_of_lt L1_y
    have HV1_y := Lib.hid V1_y
    have q1_v_0 := V1_v.c 0 _ rfl
    have q1_v_1 := V1_v.c 1 _ rfl
    have f1_v := V1_v.2.2; have L1_v := V1_v.lt; have N1_v := Nat.ne_of_gt L1_v; have M1_v := Nat.ne_of_lt L1_v
    have HV1_v := Lib.hid V1_v
    have S1 := G1.size; clear hb
    go_wp2_with fail
    (with_reducible refine (K1.out _ _ (M.pcell_var (by (repeat (first | (with_reducible assumption) | (refine M.var_alloc' _ _ _ ?_; first | rfl | (simp [go_sem]; done)) | (with_reducible refine M.Var.alloc ?_ _) | (with_reducible refine M.Var.drewN ?_ _) | (with_reducible refine M.Var.drew ?_) | (with_reducible refine M.Var.far ?_ _ _ ?h; case h => (first | omega | ((try simp [go_sem]) <;> omega))) | fail)) : M.Var _ (w1.heap.size) #[.int .i64 0]))).mono ?_); rintro en w2 ⟨rfl, hb⟩
    have G2 : Below w.heap.size w w2 := Below.trans (M.below_sets_own ([(⟨w1.heap.size, 0, none⟩, .int .i64 0)]) (by (repeat (with_reducible refine M.Below.drewN ?_ _)); go_grown) (by intro u hu; rw [M.cell_block1 hu]; dsimp only; omega)) (hb.mono (by go_size))
    have V2_b : M.Var w2 (w.heap.size) #[.int .i64 b.shape, .int .i64 b.sx, .int .i64 b.sy, .int .i64 b.mass, .int .i64 b.px, .int .i64 b.py, .int .i64 b.mx, .int .i64 b.my] := M.Var.mono' (u := M.sets _ ([(⟨w1.heap.size, 0, none⟩, .int .i64 0)])) (by (try simp only [M.sets_append]); exact (M.var_sets_far ([(⟨w1.heap.size, 0, none⟩, .int .i64 0)]) (by (repeat (first | (with_reducible assumption) | (refine M.var_alloc' _ _ _ ?_; first | rfl | (simp [go_sem]; done)) | (with_reducible refine M.Var.alloc ?_ _) | (with_reducible refine M.Var.drewN ?_ _) | (with_reducible refine M.Var.drew ?_) | (with_reducible refine M.Var.far ?_ _ _ ?h; case h => (first | omega | ((try simp [go_sem]) <;> omega))) | fail)) : M.Var _ (w.heap.size) #[.int .i64 b.shape, .int .i64 b.sx, .int .i64 b.sy, .int .i64 b.mass, .int .i64 b.px, .int .i64 b.py, .int .i64 b.mx, .int .i64 b.my]) (by intro u hu; all_goals (first | rw [M.usBx_block hu] | rw [M.usV_block hu] | rw [M.usI_block hu] | rw [M.usHt_block hu] | rw [M.usBd_block hu] | rw [M.cell_block1 hu] | (exfalso; simp at hu; done)); all_goals ((try simp [go_sem]) <;> omega)))) (M.sets_size _ _) hb
    have V2_x : M.Var w2 (w.heap.size + 1) #[.int .i64 x.lx, .int .i64 x.ly, .int .i64 x.hx, .int .i64 x.hy] := M.Var.mono' (u := M.sets _ ([(⟨w1.heap.size, 0, none⟩, .int .i64 0)])) (by (try simp only [M.sets_append]); exact (M.var_sets_far ([(⟨w1.heap.size, 0, none⟩, .int .i64 0)]) (by (repeat (first | (with_reducible assumption) | (refine M.var_alloc' _ _ _ ?_; first | rfl | (simp [go_sem]; done)) | (with_reducible refine M.Var.alloc ?_ _) | (with_reducible refine M.Var.drewN ?_ _) | (with_reducible refine M.Var.drew ?_) | (with_reducible refine M.Var.far ?_ _ _ ?h; case h => (first | omega | ((try simp [go_sem]) <;> omega))) | fail)) : M.Var _ (w.heap.size + 1) #[.int .i64 x.lx, .int .i64 x.ly, .int .i64 x.hx, .int .i64 x.hy]) (by intro u hu; all_goals (first | rw [M.usBx_block hu] | rw [M.usV_block hu] | rw [M.usI_block hu] | rw [M.usHt_block hu] | rw [M.usBd_block hu] | rw [M.cell_block1 hu] | (exfalso; simp at hu; done)); all_goals ((try simp [go_sem]) <;> omega)))) (M.sets_size _ _) hb
    have V2_y : M.Var w2 (w.heap.size + 1 + 1) #[.int .i64 y.lx, .int .i64 y.ly, .int .i64 y.hx, .int .i64 y.hy] := M.Var.mono' (u := M.sets _ ([(⟨w1.heap.size, 0, none⟩, .int .i64 0)])) (by (try simp only [M.sets_append]); exact (M.var_sets_far ([(⟨w1.heap.size, 0, none⟩, .int .i64 0)]) (by (repeat (first | (with_reducible assumption) | (refine M.var_alloc' _ _ _ ?_; first | rfl | (simp [go_sem]; done)) | (with_reducible refine M.Var.alloc ?_ _) | (with_reducible refine M.Var.drewN ?_ _) | (with_reducible refine M.Var.drew ?_) | (with_reducible refine M.Var.far ?_ _ _ ?h; case h => (first | omega | ((try simp [go_sem]) <;> omega))) | fail)) : M.Var _ (w.heap.size + 1 + 1) #[.int .i64 y.lx, .int .i64 y.ly, .int .i64 y.hx, .int .i64 y.hy]) (by intro u hu; all_goals (first | rw [M.usBx_block hu] | rw [M.usV_block hu] | rw [M.usI_block hu] | rw [M.usHt_block hu] | rw [M.usBd_block hu] | rw [M.cell_block1 hu] | (exfalso; simp at hu; done)); all_goals ((try simp [go_sem]) <;> omega)))) (M.sets_size _ _) hb
    have V2_v : M.Var w2 (w.heap.size + 1 + 1 + 1) #[.int .i64 v1, .int .i64 v2] := M.Var.mono' (u := M.sets _ ([(⟨w1.heap.size, 0, none⟩, .int .i64 0)])) (by (try simp only [M.sets_append]); exact (M.var_sets_far ([(⟨w1.heap.size, 0, none⟩, .int .i64 0)]) (by (repeat (first | (with_reducible assumption) | (refine M.var_alloc' _ _ _ ?_; first | rfl | (simp [go_sem]; done)) | (with_reducible refine M.Var.alloc ?_ _) | (with_reducible refine M.Var.drewN ?_ _) | (with_reducible refine M.Var.drew ?_) | (with_reducible refine M.Var.far ?_ _ _ ?h; case h => (first | omega | ((try simp [go_sem]) <;> omega))) | fail)) : M.Var _ (w.heap.size + 1 + 1 + 1) #[.int .i64 v1, .int .i64 v2]) (by intro u hu; all_goals (first | rw [M.usBx_block hu] | rw [M.usV_block hu] | rw [M.usI_block hu] | rw [M.usHt_block hu] | rw [M.usBd_block hu] | rw [M.cell_block1 hu] | (exfalso; simp at hu; done)); all_goals ((try simp [go_sem]) <;> omega)))) (M.sets_size _ _) hb
    have V2_c : M.Var w2 (w1.heap.size) #[.int .i64 0] := M.Var.mono' (u := M.sets _ ([(⟨w1.heap.size, 0, none⟩, .int .i64 0)])) (by (try simp only [M.sets_append]); exact (M.var_setI (by (repeat (first | (with_reducible assumption) | (refine M.var_alloc' _ _ _ ?_; first | rfl | (simp [go_sem]; done)) | (with_reducible refine M.Var.alloc ?_ _) | (with_reducible refine M.Var.drewN ?_ _) | (with_reducible refine M.Var.drew ?_) | (with_reducible refine M.Var.far ?_ _ _ ?h; case h => (first | omega | ((try simp [go_sem]) <;> omega))) | fail)) : M.Var _ (w1.heap.size) #[.int .i64 0]) _)) (M.sets_size _ _) hb
    have q2_b_0 := V2_b.c 0 _ rfl
    have q2_b_1 := V2_b.c 1 _ rfl
    have q2_b_2 := V2_b.c 2 _ rfl
    have q2_b_3 := V2_b.c 3 _ rfl
    have q2_b_4 := V2_b.c 4 _ rfl
    have q2_b_5 := V2_b.c 5 _ rfl
    have q2_b_6 := V2_b.c 6 _ rfl
    have q2_b_7 := V2_b.c 7 _ rfl
    have f2_b := V2_b.2.2; have L2_b := V2_b.lt; have N2_b := Nat.ne_of_gt L2_b; have M2_b := Nat.ne_of_lt L2_b
    have HV2_b := Lib.hid V2_b
    have q2_x_0 := V2_x.c 0 _ rfl
    have q2_x_1 := V2_x.c 1 _ rfl
    have q2_x_2 := V2_x.c 2 _ rfl
    have q2_x_3 := V2_x.c 3 _ rfl
    have f2_x := V2_x.2.2; have L2_x := V2_x.lt; have N2_x := Nat.ne_of_gt L2_x; have M2_x := Nat.ne_of_lt L2_x
    have HV2_x := Lib.hid V2_x
    have q2_y_0 := V2_y.c 0 _ rfl
    have q2_y_1 := V2_y.c 1 _ rfl
    have q2_y_2 := V2_y.c 2 _ rfl
    have q2_y_3 := V2_y.c 3 _ rfl
    have f2_y := V2_y.2.2; have L2_y := V2_y.lt; have N2_y := Nat.ne_of_gt L2_y; have M2_y := Nat.ne_of_lt L2_y
    have HV2_y := Lib.hid V2_y
    have q2_v_0 := V2_v.c 0 _ rfl
    have q2_v_1 := V2_v.c 1 _ rfl
    have f2_v := V2_v.2.2; have L2_v := V2_v.lt; have N2_v := Nat.ne_of_gt L2_v; have M2_v := Nat.ne_of_lt L2_v
    have HV2_v := Lib.hid V2_v
    have q2_c_0 := V2_c.c 0 _ rfl
    have f2_c := V2_c.2.2; have L2_c := V2_c.lt; have N2_c := Nat.ne_of_gt L2_c; have M2_c := Nat.ne_of_lt L2_c
    have HV2_c := Lib.hid V2_c
    have S2 := G2.size; clear hb
    go_wp2_with fail
    refine (try_c 51 #[.pointer (some ⟨w.heap.size, 0, none⟩), .pointer (some ⟨w2.heap.size + 1, 0, none⟩)] _ (0) (usBx (w2.heap.size + 1) (.ok q)) (fun _ => rfl) ?_ ?_).mono ?_
    · intro u hu; (try simp only [List.mem_append] at hu); (repeat' (obtain hu | hu := (hu : _ ∨ _))); all_goals (first | rw [M.usBx_block hu] | rw [M.usV_block hu] | rw [M.usI_block hu] | rw [M.usHt_block hu] | rw [M.usBd_block hu] | rw [M.cell_block1 hu] | (exfalso; simp at hu; done)); all_goals ((try simp [go_sem]) <;> omega)
    · intro w1' hb; exact (cloTells8 _ _ b hB _ _ _ _ (.ok q) hP.out w1' (M.Var.mono (b := w.heap.size) (cs := #[.int .i64 b.shape, .int .i64 b.sx, .int .i64 b.sy, .int .i64 b.mass, .int .i64 b.px, .int .i64 b.py, .int .i64 b.mx, .int .i64 b.my]) (by (repeat (first | (with_reducible assumption) | (refine M.var_alloc' _ _ _ ?_; first | rfl | (simp [go_sem]; done)) | (with_reducible refine M.Var.alloc ?_ _) | (with_reducible refine M.Var.drewN ?_ _) | (with_reducible refine M.Var.drew ?_) | (with_reducible refine M.Var.far ?_ _ _ ?h; case h => (first | omega | ((try simp [go_sem]) <;> omega))) | fail))) hb) (M.Var.mono (b := w2.heap.size + 1) (cs := #[.int .i64 0, .int .i64 0, .int .i64 0, .int .i64 0]) (by (repeat (first | (with_reducible assumption) | (refine M.var_alloc' _ _ _ ?_; first | rfl | (simp [go_sem]; done)) | (with_reducible refine M.Var.alloc ?_ _) | (with_reducible refine M.Var.drewN ?_ _) | (with_reducible refine M.Var.drew ?_) | (with_reducible refine M.Var.far ?_ _ _ ?h; case h => (first | omega | ((try simp [go_sem]) <;> omega))) | fail))) hb)).mono fun e w' h => h
    rintro en w3 ⟨rfl, hb⟩
    have G3 : Below w.heap.size w w3 := Below.trans (M.below_sets_own (usBx (w2.heap.size + 1) (.ok q)) (by (repeat (with_reducible refine M.Below.drewN ?_ _)); go_grown) (by intro u hu; (try simp only [List.mem_append] at hu); (repeat' (obtain hu | hu := (hu : _ ∨ _))); all_goals (first | rw [M.usBx_block hu] | rw [M.usV_block hu] | rw [M.usI_block hu] | rw [M.usHt_block hu] | rw [M.usBd_block hu] | rw [M.cell_block1 hu] | (exfalso; simp at hu; done)); all_goals ((try simp [go_sem]) <;> omega))) (hb.mono (by go_size))
    have V3_b : M.Var w3 (w.heap.size) #[.int .i64 b.shape, .int .i64 b.sx, .int .i64 b.sy, .int .i64 b.mass, .int .i64 b.px, .int .i64 b.py, .int .i64 b.mx, .int .i64 b.my] := M.Var.mono' (u := M.sets _ (usBx (w2.heap.size + 1) (.ok q))) (by (try simp only [M.sets_append]); exact (M.var_sets_far (usBx (w2.heap.size + 1) (.ok q)) (by (repeat (first | (with_reducible assumption) | (refine M.var_alloc' _ _ _ ?_; first | rfl | (simp [go_sem]; done)) | (with_reducible refine M.Var.alloc ?_ _) | (with_reducible refine M.Var.drewN ?_ _) | (with_reducible refine M.Var.drew ?_) | (with_reducible refine M.Var.far ?_ _ _ ?h; case h => (first | omega | ((try simp [go_sem]) <;> omega))) | fail)) : M.Var _ (w.heap.size) #[.int .i64 b.shape, .int .i64 b.sx, .int .i64 b.sy, .int .i64 b.mass, .int .i64 b.px, .int .i64 b.py, .int .i64 b.mx, .int .i64 b.my]) (by intro u hu; all_goals (first | rw [M.usBx_block hu] | rw [M.usV_block hu] | rw [M.usI_block hu] | rw [M.usHt_block hu] | rw [M.usBd_block hu] | rw [M.cell_block1 hu] | (exfalso; simp at hu; done)); all_goals ((try simp [go_sem]) <;> omega)))) (M.sets_size _ _) hb
    have V3_x : M.Var w3 (w.heap.size + 1) #[.int .i64 x.lx, .int .i64 x.ly, .int .i64 x.hx, .int .i64 x.hy] := M.Var.mono' (u := M.sets _ (usBx (w2.heap.size + 1) (.ok q))) (by (try simp only [M.sets_append]); exact (M.var_sets_far (usBx (w2.heap.size + 1) (.ok q)) (by (repeat (first | (with_reducible assumption) | (refine M.var_alloc' _ _ _ ?_; first | rfl | (simp [go_sem]; done)) | (with_reducible refine M.Var.alloc ?_ _) | (with_reducible refine M.Var.drewN ?_ _) | (with_reducible refine M.Var.drew ?_) | (with_reducible refine M.Var.far ?_ _ _ ?h; case h => (first | omega | ((try simp [go_sem]) <;> omega))) | fail)) : M.Var _ (w.heap.size + 1) #[.int .i64 x.lx, .int .i64 x.ly, .int .i64 x.hx, .int .i64 x.hy]) (by intro u hu; all_goals (first | rw [M.usBx_block hu] | rw [M.usV_block hu] | rw [M.usI_block hu] | rw [M.usHt_block hu] | rw [M.usBd_block hu] | rw [M.cell_block1 hu] | (exfalso; simp at hu; done)); all_goals ((try simp [go_sem]) <;> omega)))) (M.sets_size _ _) hb
    have V3_y : M.Var w3 (w.heap.size + 1 + 1) #[.int .i64 y.lx, .int .i64 y.ly, .int .i64 y.hx, .int .i64 y.hy] := M.Var.mono' (u := M.sets _ (usBx (w2.heap.size + 1) (.ok q))) (by (try simp only [M.sets_append]); exact (M.var_sets_far (usBx (w2.heap.size + 1) (.ok q)) (by (repeat (first | (with_reducible assumption) | (refine M.var_alloc' _ _ _ ?_; first | rfl | (simp [go_sem]; done)) | (with_reducible refine M.Var.alloc ?_ _) | (with_reducible refine M.Var.drewN ?_ _) | (with_reducible refine M.Var.drew ?_) | (with_reducible refine M.Var.far ?_ _ _ ?h; case h => (first | omega | ((try simp [go_sem]) <;> omega))) | fail)) : M.Var _ (w.heap.size + 1 + 1) #[.int .i64 y.lx, .int .i64 y.ly, .int .i64 y.hx, .int .i64 y.hy]) (by intro u hu; all_goals (first | rw [M.usBx_block hu] | rw [M.usV_block hu] | rw [M.usI_block hu] | rw [M.usHt_block hu] | rw [M.usBd_block hu] | rw [M.cell_block1 hu] | (exfalso; simp at hu; done)); all_goals ((try simp [go_sem]) <;> omega)))) (M.sets_size _ _) hb
    have V3_v : M.Var w3 (w.heap.size + 1 + 1 + 1) #[.int .i64 v1, .int .i64 v2] := M.Var.mono' (u := M.sets _ (usBx (w2.heap.size + 1) (.ok q))) (by (try simp only [M.sets_append]); exact (M.var_sets_far (usBx (w2.heap.size + 1) (.ok q)) (by (repeat (first | (with_reducible assumption) | (refine M.var_alloc' _ _ _ ?_; first | rfl | (simp [go_sem]; done)) | (with_reducible refine M.Var.alloc ?_ _) | (with_reducible refine M.Var.drewN ?_ _) | (with_reducible refine M.Var.drew ?_) | (with_reducible refine M.Var.far ?_ _ _ ?h; case h => (first | omega | ((try simp [go_sem]) <;> omega))) | fail)) : M.Var _ (w.heap.size + 1 + 1 + 1) #[.int .i64 v1, .int .i64 v2]) (by intro u hu; all_goals (first | rw [M.usBx_block hu] | rw [M.usV_block hu] | rw [M.usI_block hu] | rw [M.usHt_block hu] | rw [M.usBd_block hu] | rw [M.cell_block1 hu] | (exfalso; simp at hu; done)); all_goals ((try simp [go_sem]) <;> omega)))) (M.sets_size _ _) hb
    have V3_c : M.Var w3 (w1.heap.size) #[.int .i64 0] := M.Var.mono' (u := M.sets _ (usBx (w2.heap.size + 1) (.ok q))) (by (try simp only [M.sets_append]); exact (M.var_sets_far (usBx (w2.heap.size + 1) (.ok q)) (by (repeat (first | (with_reducible assumption) | (refine M.var_alloc' _ _ _ ?_; first | rfl | (simp [go_sem]; done)) | (with_reducible refine M.Var.alloc ?_ _) | (with_reducible refine M.Var.drewN ?_ _) | (with_reducible refine M.Var.drew ?_) | (with_reducible refine M.Var.far ?_ _ _ ?h; case h => (first | omega | ((try simp [go_sem]) <;> omega))) | fail)) : M.Var _ (w1.heap.size) #[.int .i64 0]) (by intro u hu; all_goals (first | rw [M.usBx_block hu] | rw [M.usV_block hu] | rw [M.usI_block hu] | rw [M.usHt_block hu] | rw [M.usBd_block hu] | rw [M.cell_block1 hu] | (exfalso; simp at hu; done)); all_goals ((try simp [go_sem]) <;> omega)))) (M.sets_size _ _) hb
    have V3_s : M.Var w3 (w2.heap.size) #[.int .i64 q.lx, .int .i64 q.ly, .int .i64 q.hx, .int .i64 q.hy] := M.Var.mono' (u := M.sets _ (usBx (w2.heap.size + 1) (.ok q))) (by (try simp only [M.sets_append]); exact (M.var_sets_far (usBx (w2.heap.size + 1) (.ok q)) (by (repeat (first | (with_reducible assumption) | (refine M.var_alloc' _ _ _ ?_; first | rfl | (simp [go_sem]; done)) | (with_reducible refine M.Var.alloc ?_ _) | (with_reducible refine M.Var.drewN ?_ _) | (with_reducible refine M.Var.drew ?_) | (with_reducible refine M.Var.far ?_ _ _ ?h; case h => (first | omega | ((try simp [go_sem]) <;> omega))) | fail)) : M.Var _ (w2.heap.size) #[.int .i64 q.lx, .int .i64 q.ly, .int .i64 q.hx, .int .i64 q.hy]) (by intro u hu; all_goals (first | rw [M.usBx_block hu] | rw [M.usV_block hu] | rw [M.usI_block hu] | rw [M.usHt_block hu] | rw [M.usBd_block hu] | rw [M.cell_block1 hu] | (exfalso; simp at hu; done)); all_goals ((try simp [go_sem]) <;> omega)))) (M.sets_size _ _) hb
    have V3_o : M.Var w3 (w2.heap.size + 1) #[.int .i64 q.lx, .int .i64 q.ly, .int .i64 q.hx, .int .i64 q.hy] := M.Var.mono' (u := M.sets _ (usBx (w2.heap.size + 1) (.ok q))) (by (try simp only [M.sets_append]); exact (M.var_setBx (by (repeat (first | (with_reducible assumption) | (refine M.var_alloc' _ _ _ ?_; first | rfl | (simp [go_sem]; done)) | (with_reducible refine M.Var.alloc ?_ _) | (with_reducible refine M.Var.drewN ?_ _) | (with_reducible refine M.Var.drew ?_) | (with_reducible refine M.Var.far ?_ _ _ ?h; case h => (first | omega | ((try simp [go_sem]) <;> omega))) | fail)) : M.Var _ (w2.heap.size + 1) #[.int .i64 0, .int .i64 0, .int .i64 0, .int .i64 0]) _ _ _ _)) (M.sets_size _ _) hb
    have q3_b_0 := V3_b.c 0 _ rfl
    have q3_b_1 := V3_b.c 1 _ rfl
    have q3_b_2 := V3_b.c 2 _ rfl
    have q3_b_3 := V3_b.c 3 _ rfl
    have q3_b_4 := V3_b.c 4 _ rfl
    have q3_b_5 := V3_b.c 5 _ rfl
    have q3_b_6 := V3_b.c 6 _ rfl
    have q3_b_7 := V3_b.c 7 _ rfl
    have f3_b := V3_b.2.2; have L3_b := V3_b.lt; have N3_b := Nat.ne_of_gt L3_b; have M3_b := Nat.ne_of_lt L3_b
    have HV3_b := Lib.hid V3_b
    have q3_x_0 := V3_x.c 0 _ rfl
    have q3_x_1 := V3_x.c 1 _ rfl
    have q3_x_2 := V3_x.c 2 _ rfl
    have q3_x_3 := V3_x.c 3 _ rfl
    have f3_x := V3_x.2.2; have L3_x := V3_x.lt; have N3_x := Nat.ne_of_gt L3_x; have M3_x := Nat.ne_of_lt L3_x
    have HV3_x := Lib.hid V3_x
    have q3_y_0 := V3_y.c 0 _ rfl
    have q3_y_1 := V3_y.c 1 _ rfl
    have q3_y_2 := V3_y.c 2 _ rfl
    have q3_y_3 := V3_y.c 3 _ rfl
    have f3_y := V3_y.2.2; have L3_y := V3_y.lt; have N3_y := Nat.ne_of_gt L3_y; have M3_y := Nat.ne_of_lt L3_y
    have HV3_y := Lib.hid V3_y
    have q3_v_0 := V3_v.c 0 _ rfl
    have q3_v_1 := V3_v.c 1 _ rfl
    have f3_v := V3_v.2.2; have L3_v := V3_v.lt; have N3_v := Nat.ne_of_gt L3_v; have M3_v := Nat.ne_of_lt L3_v
    have HV3_v := Lib.hid V3_v
    have q3_c_0 := V3_c.c 0 _ rfl
    have f3_c := V3_c.2.2; have L3_c := V3_c.lt; have N3_c := Nat.ne_of_gt L3_c; have M3_c := Nat.ne_of_lt L3_c
    have HV3_c := Lib.hid V3_c
    have q3_s_0 := V3_s.c 0 _ rfl
    have q3_s_1 := V3_s.c 1 _ rfl
    have q3_s_2 := V3_s.c 2 _ rfl
    have q3_s_3 := V3_s.c 3 _ rfl
    have f3_s := V3_s.2.2; have L3_s := V3_s.lt; have N3_s := Nat.ne_of_gt L3_s; have M3_s := Nat.ne_of_lt L3_s
    have HV3_s := Lib.hid V3_s
    have q3_o_0 := V3_o.c 0 _ rfl
    have q3_o_1 := V3_o.c 1 _ rfl
    have q3_o_2 := V3_o.c 2 _ rfl
    have q3_o_3 := V3_o.c 3 _ rfl
    have f3_o := V3_o.2.2; have L3_o := V3_o.lt; have N3_o := Nat.ne_of_gt L3_o; have M3_o := Nat.ne_of_lt L3_o
    have HV3_o := Lib.hid V3_o
    have S3 := G3.size; clear hb
    go_wp2_with fail
    refine M.wp_region_later (fun w' => M.Var w' (w.heap.size + 1) #[.int .i64 x.lx, .int .i64 x.ly, .int .i64 x.hx, .int .i64 x.hy] ∧ M.Var w' (w.heap.size + 1 + 1) #[.int .i64 y.lx, .int .i64 y.ly, .int .i64 y.hx, .int .i64 y.hy] ∧ M.Var w' (w.heap.size + 1 + 1 + 1) #[.int .i64 v1, .int .i64 v2] ∧ M.Var w' (w1.heap.size) #[.int .i64 0] ∧ M.Var w' (w2.heap.size) #[.int .i64 q.lx, .int .i64 q.ly, .int .i64 q.hx, .int .i64 q.hy] ∧ M.Var w' (w2.heap.size + 1) #[.int .i64 q.lx, .int .i64 q.ly, .int .i64 q.hx, .int .i64 q.hy] ∧ M.Var w' (w3.heap.size) #[.int .i64 (min x.lx y.lx), .int .i64 (min x.ly y.ly), .int .i64 (max x.hx y.hx), .int .i64 (max x.hy y.hy)] ∧ True) (by kernel_rfl) (by kernel_rfl) (fun w' hb => ⟨M.Var.mono (by (repeat (first | (with_reducible assumption) | (refine M.var_alloc' _ _ _ ?_; first | rfl | (simp [go_sem]; done)) | (with_reducible refine M.Var.alloc ?_ _) | (with_reducible refine M.Var.drewN ?_ _) | (with_reducible refine M.Var.drew ?_) | (with_reducible refine M.Var.far ?_ _ _ ?h; case h => (first | omega | ((try simp [go_sem]) <;> omega))) | fail)) : M.Var _ (w.heap.size + 1) #[.int .i64 x.lx, .int .i64 x.ly, .int .i64 x.hx, .int .i64 x.hy]) hb, M.Var.mono (by (repeat (first | (with_reducible assumption) | (refine M.var_alloc' _ _ _ ?_; first | rfl | (simp [go_sem]; done)) | (with_reducible refine M.Var.alloc ?_ _) | (with_reducible refine M.Var.drewN ?_ _) | (with_reducible refine M.Var.drew ?_) | (with_reducible refine M.Var.far ?_ _ _ ?h; case h => (first | omega | ((try simp [go_sem]) <;> omega))) | fail)) : M.Var _ (w.heap.size + 1 + 1) #[.int .i64 y.lx, .int .i64 y.ly, .int .i64 y.hx, .int .i64 y.hy]) hb, M.Var.mono (by (repeat (first | (with_reducible assumption) | (refine M.var_alloc' _ _ _ ?_; first | rfl | (simp [go_sem]; done)) | (with_reducible refine M.Var.alloc ?_ _) | (with_reducible refine M.Var.drewN ?_ _) | (with_reducible refine M.Var.drew ?_) | (with_reducible refine M.Var.far ?_ _ _ ?h; case h => (first | omega | ((try simp [go_sem]) <;> omega))) | fail)) : M.Var _ (w.heap.size + 1 + 1 + 1) #[.int .i64 v1, .int .i64 v2]) hb, M.Var.mono (by (repeat (first | (with_reducible assumption) | (refine M.var_alloc' _ _ _ ?_; first | rfl | (simp [go_sem]; done)) | (with_reducible refine M.Var.alloc ?_ _) | (with_reducible refine M.Var.drewN ?_ _) | (with_reducible refine M.Var.drew ?_) | (with_reducible refine M.Var.far ?_ _ _ ?h; case h => (first | omega | ((try simp [go_sem]) <;> omega))) | fail)) : M.Var _ (w1.heap.size) #[.int .i64 0]) hb, M.Var.mono (by (repeat (first | (with_reducible assumption) | (refine M.var_alloc' _ _ _ ?_; first | rfl | (simp [go_sem]; done)) | (with_reducible refine M.Var.alloc ?_ _) | (with_reducible refine M.Var.drewN ?_ _) | (with_reducible refine M.Var.drew ?_) | (with_reducible refine M.Var.far ?_ _ _ ?h; case h => (first | omega | ((try simp [go_sem]) <;> omega))) | fail)) : M.Var _ (w2.heap.size) #[.int .i64 q.lx, .int .i64 q.ly, .int .i64 q.hx, .int .i64 q.hy]) hb, M.Var.mono (by (repeat (first | (with_reducible assumption) | (refine M.var_alloc' _ _ _ ?_; first | rfl | (simp [go_sem]; done)) | (with_reducible refine M.Var.alloc ?_ _) | (with_reducible refine M.Var.drewN ?_ _) | (with_reducible refine M.Var.drew ?_) | (with_reducible refine M.Var.far ?_ _ _ ?h; case h => (first | omega | ((try simp [go_sem]) <;> omega))) | fail)) : M.Var _ (w2.heap.size + 1) #[.int .i64 q.lx, .int .i64 q.ly, .int .i64 q.hx, .int .i64 q.hy]) hb, M.Var.mono (by (repeat (first | (with_reducible assumption) | (refine M.var_alloc' _ _ _ ?_; first | rfl | (simp [go_sem]; done)) | (with_reducible refine M.Var.alloc ?_ _) | (with_reducible refine M.Var.drewN ?_ _) | (with_reducible refine M.Var.drew ?_) | (with_reducible refine M.Var.far ?_ _ _ ?h; case h => (first | omega | ((try simp [go_sem]) <;> omega))) | fail)) : M.Var _ (w3.heap.size) #[.int .i64 (min x.lx y.lx), .int .i64 (min x.ly y.ly), .int .i64 (max x.hx y.hx), .int .i64 (max x.hy y.hy)]) hb, trivial⟩) ?_
    intro hS
    have z4_x_0 := fun p => (hS p).1.c 0 _ rfl
    have z4_x_1 := fun p => (hS p).1.c 1 _ rfl
    have z4_x_2 := fun p => (hS p).1.c 2 _ rfl
    have z4_x_3 := fun p => (hS p).1.c 3 _ rfl
    have z4_y_0 := fun p => (hS p).2.1.c 0 _ rfl
    have z4_y_1 := fun p => (hS p).2.1.c 1 _ rfl
    have z4_y_2 := fun p => (hS p).2.1.c 2 _ rfl
    have z4_y_3 := fun p => (hS p).2.1.c 3 _ rfl
    have z4_v_0 := fun p => (hS p).2.2.1.c 0 _ rfl
    have z4_v_1 := fun p => (hS p).2.2.1.c 1 _ rfl
    have z4_c_0 := fun p => (hS p).2.2.2.1.c 0 _ rfl
    have z4_s_0 := fun p => (hS p).2.2.2.2.1.c 0 _ rfl
    have z4_s_1 := fun p => (hS p).2.2.2.2.1.c 1 _ rfl
    have z4_s_2 := fun p => (hS p).2.2.2.2.1.c 2 _ rfl
    have z4_s_3 := fun p => (hS p).2.2.2.2.1.c 3 _ rfl
    have z4_o_0 := fun p => (hS p).2.2.2.2.2.1.c 0 _ rfl
    have z4_o_1 := fun p => (hS p).2.2.2.2.2.1.c 1 _ rfl
    have z4_o_2 := fun p => (hS p).2.2.2.2.2.1.c 2 _ rfl
    have z4_o_3 := fun p => (hS p).2.2.2.2.2.1.c 3 _ rfl
    have z4_t_0 := fun p => (hS p).2.2.2.2.2.2.1.c 0 _ rfl
    have z4_t_1 := fun p => (hS p).2.2.2.2.2.2.1.c 1 _ rfl
    have z4_t_2 := fun p => (hS p).2.2.2.2.2.2.1.c 2 _ rfl
    have z4_t_3 := fun p => (hS p).2.2.2.2.2.2.1.c 3 _ rfl
    have HS := Lib.hid hS; clear hS
    repeat (go_big_quiet_step ((first
          | (go_at_call 42; with_reducible exact M.later_of (C1.out _))
          | (go_at_call 52; with_reducible exact M.later_of (C2.out _))
          | (go_at_call 53; with_reducible exact M.later_of (C3.out _))
          | (go_at_call 43; with_reducible exact M.later_of (C4.out _))
          | (go_at_call 44; with_reducible exact M.later_of (C5.out _))
          | (go_at_call 54; with_reducible exact M.later_of (C6.out _))
      )))
    refine wpQuiet_nil ?_
    intro w4 hw'
    obtain ⟨pL, hL⟩ := hw'
    have hb := pL.h; rw [← hL] at hb; clear hL pL
    have G4 : Below w.heap.size w w4 := Below.trans (by (repeat (with_reducible refine M.Below.drewN ?_ _)); go_grown) (hb.mono (by go_size))
    have V4_b : M.Var w4 (w.heap.size) #[.int .i64 b.shape, .int .i64 b.sx, .int .i64 b.sy, .int .i64 b.mass, .int .i64 b.px, .int .i64 b.py, .int .i64 b.mx, .int .i64 b.my] := M.Var.mono (by (repeat (first | (with_reducible assumption) | (refine M.var_alloc' _ _ _ ?_; first | rfl | (simp [go_sem]; done)) | (with_reducible refine M.Var.alloc ?_ _) | (with_reducible refine M.Var.drewN ?_ _) | (with_reducible refine M.Var.drew ?_) | (with_reducible refine M.Var.far ?_ _ _ ?h; case h => (first | omega | ((try simp [go_sem]) <;> omega))) | fail))) hb
    have V4_x : M.Var w4 (w.heap.size + 1) #[.int .i64 x.lx, .int .i64 x.ly, .int .i64 x.hx, .int .i64 x.hy] := M.Var.mono (by (repeat (first | (with_reducible assumption) | (refine M.var_alloc' _ _ _ ?_; first | rfl | (simp [go_sem]; done)) | (with_reducible refine M.Var.alloc ?_ _) | (with_reducible refine M.Var.drewN ?_ _) | (with_reducible refine M.Var.drew ?_) | (with_reducible refine M.Var.far ?_ _ _ ?h; case h => (first | omega | ((try simp [go_sem]) <;> omega))) | fail))) hb
    have V4_y : M.Var w4 (w.heap.size + 1 + 1) #[.int .i64 y.lx, .int .i64 y.ly, .int .i64 y.hx, .int .i64 y.hy] := M.Var.mono (by (repeat (first | (with_reducible assumption) | (refine M.var_alloc' _ _ _ ?_; first | rfl | (simp [go_sem]; done)) | (with_reducible refine M.Var.alloc ?_ _) | (with_reducible refine M.Var.drewN ?_ _) | (with_reducible refine M.Var.drew ?_) | (with_reducible refine M.Var.far ?_ _ _ ?h; case h => (first | omega | ((try simp [go_sem]) <;> omega))) | fail))) hb
    have V4_v : M.Var w4 (w.heap.size + 1 + 1 + 1) #[.int .i64 v1, .int .i64 v2] := M.Var.mono (by (repeat (first | (with_reducible assumption) | (refine M.var_alloc' _ _ _ ?_; first | rfl | (simp [go_sem]; done)) | (with_reducible refine M.Var.alloc ?_ _) | (with_reducible refine M.Var.drewN ?_ _) | (with_reducible refine M.Var.drew ?_) | (with_reducible refine M.Var.far ?_ _ _ ?h; case h => (first | omega | ((try simp [go_sem]) <;> omega))) | fail))) hb
    have V4_c : M.Var w4 (w1.heap.size) #[.int .i64 0] := M.Var.mono (by (repeat (first | (with_reducible assumption) | (refine M.var_alloc' _ _ _ ?_; first | rfl | (simp [go_sem]; done)) | (with_reducible refine M.Var.alloc ?_ _) | (with_reducible refine M.Var.drewN ?_ _) | (with_reducible refine M.Var.drew ?_) | (with_reducible refine M.Var.far ?_ _ _ ?h; case h => (first | omega | ((try simp [go_sem]) <;> omega))) | fail))) hb
    have V4_s : M.Var w4 (w2.heap.size) #[.int .i64 q.lx, .int .i64 q.ly, .int .i64 q.hx, .int .i64 q.hy] := M.Var.mono (by (repeat (first | (with_reducible assumption) | (refine M.var_alloc' _ _ _ ?_; first | rfl | (simp [go_sem]; done)) | (with_reducible refine M.Var.alloc ?_ _) | (with_reducible refine M.Var.drewN ?_ _) | (with_reducible refine M.Var.drew ?_) | (with_reducible refine M.Var.far ?_ _ _ ?h; case h => (first | omega | ((try simp [go_sem]) <;> omega))) | fail))) hb
    have V4_o : M.Var w4 (w2.heap.size + 1) #[.int .i64 q.lx, .int .i64 q.ly, .int .i64 q.hx, .int .i64 q.hy] := M.Var.mono (by (repeat (first | (with_reducible assumption) | (refine M.var_alloc' _ _ _ ?_; first | rfl | (simp [go_sem]; done)) | (with_reducible refine M.Var.alloc ?_ _) | (with_reducible refine M.Var.drewN ?_ _) | (with_reducible refine M.Var.drew ?_) | (with_reducible refine M.Var.far ?_ _ _ ?h; case h => (first | omega | ((try simp [go_sem]) <;> omega))) | fail))) hb
    have V4_t : M.Var w4 (w3.heap.size) #[.int .i64 (min x.lx y.lx), .int .i64 (min x.ly y.ly), .int .i64 (max x.hx y.hx), .int .i64 (max x.hy y.hy)] := M.Var.mono (by (repeat (first | (with_reducible assumption) | (refine M.var_alloc' _ _ _ ?_; first | rfl | (simp [go_sem]; done)) | (with_reducible refine M.Var.alloc ?_ _) | (with_reducible refine M.Var.drewN ?_ _) | (with_reducible refine M.Var.drew ?_) | (with_reducible refine M.Var.far ?_ _ _ ?h; case h => (first | omega | ((try simp [go_sem]) <;> omega))) | fail))) hb
    have q4_b_0 := V4_b.c 0 _ rfl
    have q4_b_1 := V4_b.c 1 _ rfl
    have q4_b_2 := V4_b.c 2 _ rfl
    have q4_b_3 := V4_b.c 3 _ rfl
    have q4_b_4 := V4_b.c 4 _ rfl
    have q4_b_5 := V4_b.c 5 _ rfl
    have q4_b_6 := V4_b.c 6 _ rfl
    have q4_b_7 := V4_b.c 7 _ rfl
    have f4_b := V4_b.2.2; have L4_b := V4_b.lt; have N4_b := Nat.ne_of_gt L4_b; have M4_b := Nat.ne_of_lt L4_b
    have HV4_b := Lib.hid V4_b
    have q4_x_0 := V4_x.c 0 _ rfl
    have q4_x_1 := V4_x.c 1 _ rfl
    have q4_x_2 := V4_x.c 2 _ rfl
    have q4_x_3 := V4_x.c 3 _ rfl
    have f4_x := V4_x.2.2; have L4_x := V4_x.lt; have N4_x := Nat.ne_of_gt L4_x; have M4_x := Nat.ne_of_lt L4_x
    have HV4_x := Lib.hid V4_x
    have q4_y_0 := V4_y.c 0 _ rfl
    have q4_y_1 := V4_y.c 1 _ rfl
    have q4_y_2 := V4_y.c 2 _ rfl
    have q4_y_3 := V4_y.c 3 _ rfl
    have f4_y := V4_y.2.2; have L4_y := V4_y.lt; have N4_y := Nat.ne_of_gt L4_y; have M4_y := Nat.ne_of_lt L4_y
    have HV4_y := Lib.hid V4_y
    have q4_v_0 := V4_v.c 0 _ rfl
    have q4_v_1 := V4_v.c 1 _ rfl
    have f4_v := V4_v.2.2; have L4_v := V4_v.lt; have N4_v := Nat.ne_of_gt L4_v; have M4_v := Nat.ne_of_lt L4_v
    have HV4_v := Lib.hid V4_v
    have q4_c_0 := V4_c.c 0 _ rfl
    have f4_c := V4_c.2.2; have L4_c := V4_c.lt; have N4_c := Nat.ne_of_gt L4_c; have M4_c := Nat.ne_of_lt L4_c
    have HV4_c := Lib.hid V4_c
    have q4_s_0 := V4_s.c 0 _ rfl
    have q4_s_1 := V4_s.c 1 _ rfl
    have q4_s_2 := V4_s.c 2 _ rfl
    have q4_s_3 := V4_s.c 3 _ rfl
    have f4_s := V4_s.2.2; have L4_s := V4_s.lt; have N4_s := Nat.ne_of_gt L4_s; have M4_s := Nat.ne_of_lt L4_s
    have HV4_s := Lib.hid V4_s
    have q4_o_0 := V4_o.c 0 _ rfl
    have q4_o_1 := V4_o.c 1 _ rfl
    have q4_o_2 := V4_o.c 2 _ rfl
    have q4_o_3 := V4_o.c 3 _ rfl
    have f4_o := V4_o.2.2; have L4_o := V4_o.lt; have N4_o := Nat.ne_of_gt L4_o; have M4_o := Nat.ne_of_lt L4_o
    have HV4_o := Lib.hid V4_o
    have q4_t_0 := V4_t.c 0 _ rfl
    have q4_t_1 := V4_t.c 1 _ rfl
    have q4_t_2 := V4_t.c 2 _ rfl
    have q4_t_3 := V4_t.c 3 _ rfl
    have f4_t := V4_t.2.2; have L4_t := V4_t.lt; have N4_t := Nat.ne_of_gt L4_t; have M4_t := Nat.ne_of_lt L4_t
    have HV4_t := Lib.hid V4_t
    have S4 := G4.size; clear hb
    clear z4_x_0 z4_x_1 z4_x_2 z4_x_3 z4_y_0 z4_y_1 z4_y_2 z4_y_3 z4_v_0 z4_v_1 z4_c_0 z4_s_0 z4_s_1 z4_s_2 z4_s_3 z4_o_0 z4_o_1 z4_o_2 z4_o_3 z4_t_0 z4_t_1 z4_t_2 z4_t_3 HS
    go_wp2_with fail
    go_ret
    exact ⟨rfl, by (repeat (with_reducible refine M.Below.drewN ?_ _)); go_grown⟩

end Go.Proofs.Ytaagpkacningdaa.boundsTells
