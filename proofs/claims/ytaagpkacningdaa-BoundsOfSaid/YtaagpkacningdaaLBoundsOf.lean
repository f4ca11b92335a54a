/- For every body that may be BoundsOf returns true: the box around it has its place in its middle, and is as large as it. -/
import Derived.Test.YtaagpkacningdaaRows
import Derived.WalkKit
import Derived.ProofKit
import Derived.OpenShut
import Derived.Test.YtaagpkacningdaaFacts
import Derived.Test.YtaagpkacningdaaArgs
import Derived.Test.YtaagpkacningdaaRefRight
import Derived.Test.YtaagpkacningdaaClo8
import Derived.Test.YtaagpkacningdaaBoundsAlive
import Derived.Deep.DrawnRows
namespace Go.Proofs.Ytaagpkacningdaa.boundsOf
open Go.ChangeShapes Go.WideShapes Go.ChangeAt Go.RowKit M
set_option maxRecDepth 100000
set_option maxHeartbeats 8000000
set_option linter.unusedVariables false
set_option linter.unusedSimpArgs false
attribute [local go_sem ↓] Go.wp_at_zero Go.wp_at_succ
theorem own : ownKnob Try.prog.godebug = none := by kernel_rfl

/-- The walk: the Go text returns true; of what was there nothing turns. -/
theorem walk (b : Bd) (hb : b.ok) (w : World) :
    Calls Try.prog 4 #[.agg #[.int .i64 b.shape, .int .i64 b.sx, .int .i64 b.sy, .int .i64 b.mass, .int .i64 b.px, .int .i64 b.py, .int .i64 b.mx, .int .i64 b.my]] w fun e w' => e = .returned (.bool true) ∧ Bw w w' := by
  have c0 := Lib.hid alive8_c
  have hB := hb
  have c1 := refRight_x b
  have hs := rightB_spec (b := b)
  have hbx := fun h => boxX_lo (lo_of_right (b := b) h)
  generalize rightB b = R at *
  cases R
  · have C1 := Lib.hid c1
    clear c1 hs hbx
    go_enter Try.func4, Try.ntmps4
    go_wp2_with fail
    (with_reducible refine (C1.out _).mono ?_); rintro en w1 ⟨rfl, hb⟩
    have G1 : Below w.heap.size w w1 := Below.trans (by (repeat (with_reducible refine M.Below.drewN ?_ _)); go_grown) (hb.mono (by go_size))
    have V1_b : M.Var w1 (w.heap.size) #[.int .i64 b.shape, .int .i64 b.sx, .int .i64 b.sy, .int .i64 b.mass, .int .i64 b.px, .int .i64 b.py, .int .i64 b.mx, .int .i64 b.my] := M.Var.mono (by (repeat (first | (with_reducible assumption) | (refine M.var_alloc' _ _ _ ?_; first | rfl | (simp [go_sem]; done)) | (with_reducible refine M.Var.alloc ?_ _) | (with_reducible refine M.Var.drewN ?_ _) | (with_reducible refine M.Var.drew ?_) | (with_reducible refine M.Var.far ?_ _ _ ?h; case h => (first | omega | ((try simp [go_sem]) <;> omega))) | fail))) hb
    have q1_b_0 := V1_b.c 0 _ rfl
    have q1_b_1 := V1_b.c 1 _ rfl
    have q1_b_2 := V1_b.c 2 _ rfl
    have q1_b_3 := V1_b.c 3 _ rfl
    have q1_b_4 := V1_b.c 4 _ rfl
    have q1_b_5 := V1_b.c 5 _ rfl
    have q1_b_6 := V1_b.c 6 _ rfl
    have q1_b_7 := V1_b.c 7 _ rfl
    have f1_b := V1_b.2.2; have L1_b := V1_b.lt; have N1_b := Nat.ne_of_gt L1_b; have M1_b := Nat.ne_of_lt L1_b
    have HV1_b := Lib.hid V1_b
    have S1 := G1.size; clear hb
    go_wp2_with fail
    (with_reducible refine (c0.out _).mono ?_); rintro en w2 ⟨rfl, hb⟩
    have G2 : Below w.heap.size w w2 := Below.trans (by (repeat (with_reducible refine M.Below.drewN ?_ _)); go_grown) (hb.mono (by go_size))
    have V2_b : M.Var w2 (w.heap.size) #[.int .i64 b.shape, .int .i64 b.sx, .int .i64 b.sy, .int .i64 b.mass, .int .i64 b.px, .int .i64 b.py, .int .i64 b.mx, .int .i64 b.my] := M.Var.mono (by (repeat (first | (with_reducible assumption) | (refine M.var_alloc' _ _ _ ?_; first | rfl | (simp [go_sem]; done)) | (with_reducible refine M.Var.alloc ?_ _) | (with_reducible refine M.Var.drewN ?_ _) | (with_reducible refine M.Var.drew ?_) | (with_reducible refine M.Var.far ?_ _ _ ?h; case h => (first | omega | ((try simp [go_sem]) <;> omega))) | fail))) hb
    have q2_b_0 := V2_b.c 0 _ rfl
    have q2_b_1 := V2_b.c 1 _ rfl
    have q2_b_2 := V2_b.c 2 _ rfl
    have q2_b_3 := V2_b.c 3 _ rfl
    have q2_b_4 := V2_b.c 4 _ rfl
    have q2_b_5 := V2_b.c 5 _ rfl
    have q2_b_6 := V2_b.c 6 _ rfl
    have q2_b_7 := V2_b.c 7 _ rfl
    have f2_b := V2_b.2.2; have L2_b := V2_b.lt; have N2_b := Nat.ne_of_gt L2_b; have M2_b := Nat.ne_of_lt L2_b
    have HV2_b := Lib.hid V2_b
    have S2 := G2.size; clear hb
    go_wp2_with fail
    go_ret
    exact ⟨rfl, by (repeat (with_reducible refine M.Below.drewN ?_ _)); go_grown⟩
  have C1 := Lib.hid c1
  obtain ⟨s1, s2, s3, s4, s5, _⟩ := hs rfl
  have e := hbx rfl
  clear c1 hs hbx s3
  by_cases h1 : b.shape = 1
  · have hq := beq_iff_eq.2 h1
    rw [show boxV b = ⟨b.px - b.sx, b.py - b.sx, b.px + b.sx, b.py + b.sx⟩ by unfold boxV half; rw [if_pos h1]] at e
    have E := Lib.hid e
    clear e h1 s1
    have c5 := in_bx_x b.px b.py ⟨b.px - b.sx, b.py - b.sx, b.px + b.sx, b.py + b.sx⟩
    have c6 := meet_x ⟨b.px - b.sx, b.py - b.sx, b.px + b.sx, b.py + b.sx⟩ ⟨b.px - b.sx, b.py - b.sx, b.px + b.sx, b.py + b.sx⟩
    rw [show inBx (b.px, b.py) ⟨b.px - b.sx, b.py - b.sx, b.px + b.sx, b.py + b.sx⟩ = true by unfold inBx; simp only [Bool.and_eq_true, decide_eq_true_eq]; omega] at c5
    rw [show meetB ⟨b.px - b.sx, b.py - b.sx, b.px + b.sx, b.py + b.sx⟩ ⟨b.px - b.sx, b.py - b.sx, b.px + b.sx, b.py + b.sx⟩ = true by rw [meetB_iff]; dsimp only; omega] at c6
    have C5 := Lib.hid c5; have C6 := Lib.hid c6
    clear c5 c6
    go_enter Try.func4, Try.ntmps4
    go_wp2_with fail
    (with_reducible refine (C1.out _).mono ?_); rintro en w1 ⟨rfl, hb⟩
    have G1 : Below w.heap.size w w1 := Below.trans (by (repeat (with_reducible refine M.Below.drewN ?_ _)); go_grown) (hb.mono (by go_size))
    have V1_b : M.Var w1 (w.heap.size) #[.int .i64 b.shape, .int .i64 b.sx, .int .i64 b.sy, .int .i64 b.mass, .int .i64 b.px, .int .i64 b.py, .int .i64 b.mx, .int .i64 b.my] := M.Var.mono (by (repeat (first | (with_reducible assumption) | (refine M.var_alloc' _ _ _ ?_; first | rfl | (simp [go_sem]; done)) | (with_reducible refine M.Var.alloc ?_ _) | (with_reducible refine M.Var.drewN ?_ _) | (with_reducible refine M.Var.drew ?_) | (with_reducible refine M.Var.far ?_ _ _ ?h; case h => (first | omega | ((try simp [go_sem]) <;> omega))) | fail))) hb
    have q1_b_0 := V1_b.c 0 _ rfl
    have q1_b_1 := V1_b.c 1 _ rfl
    have q1_b_2 := V1_b.c 2 _ rfl
    have q1_b_3 := V1_b.c 3 _ rfl
    have q1_b_4 := V1_b.c 4 _ rfl
    have q1_b_5 := V1_b.c 5 _ rfl
    have q1_b_6 := V1_b.c 6 _ rfl
    have q1_b_7 := V1_b.c 7 _ rfl
    have f1_b := V1_b.2.2; have L1_b := V1_b.lt; have N1_b := Nat.ne_of_gt L1_b; have M1_b := Nat.ne_of_lt L1_b
    have HV1_b := Lib.hid V1_b
    have S1 := G1.size; clear hb
    go_wp2_with fail
    (with_reducible refine (c0.out _).mono ?_); rintro en w2 ⟨rfl, hb⟩
    have G2 : Below w.heap.size w w2 := Below.trans (by (repeat (with_reducible refine M.Below.drewN ?_ _)); go_grown) (hb.mono (by go_size))
    have V2_b : M.Var w2 (w.heap.size) #[.int .i64 b.shape, .int .i64 b.sx, .int .i64 b.sy, .int .i64 b.mass, .int .i64 b.px, .int .i64 b.py, .int .i64 b.mx, .int .i64 b.my] := M.Var.mono (by (repeat (first | (with_reducible assumption) | (refine M.var_alloc' _ _ _ ?_; first | rfl | (simp [go_sem]; done)) | (with_reducible refine M.Var.alloc ?_ _) | (with_reducible refine M.Var.drewN ?_ _) | (with_reducible refine M.Var.drew ?_) | (with_reducible refine M.Var.far ?_ _ _ ?h; case h => (first | omega | ((try simp [go_sem]) <;> omega))) | fail))) hb
    have q2_b_0 := V2_b.c 0 _ rfl
    have q2_b_1 := V2_b.c 1 _ rfl
    have q2_b_2 := V2_b.c 2 _ rfl
    have q2_b_3 := V2_b.c 3 _ rfl
    have q2_b_4 := V2_b.c 4 _ rfl
    have q2_b_5 := V2_b.c 5 _ rfl
    have q2_b_6 := V2_b.c 6 _ rfl
    have q2_b_7 := V2_b.c 7 _ rfl
    have f2_b := V2_b.2.2; have L2_b := V2_b.lt; have N2_b := Nat.ne_of_gt L2_b; have M2_b := Nat.ne_of_lt L2_b
    have HV2_b := Lib.hid V2_b
    have S2 := G2.size; clear hb
    go_wp2_with fail
    refine (try_c 47 #[.pointer (some ⟨w.heap.size, 0, none⟩), .pointer (some ⟨w2.heap.size, 0, none⟩)] _ (0) (usBx (w2.heap.size) (.ok ⟨b.px - b.sx, b.py - b.sx, b.px + b.sx, b.py + b.sx⟩)) (fun _ => rfl) ?_ ?_).mono ?_
    · intro u hu; (try simp only [List.mem_append] at hu); (repeat' (obtain hu | hu := (hu : _ ∨ _))); all_goals (first | rw [M.usBx_block hu] | rw [M.usV_block hu] | rw [M.usI_block hu] | rw [M.usHt_block hu] | rw [M.usBd_block hu] | rw [M.cell_block1 hu] | (exfalso; simp at hu; done)); all_goals ((try simp [go_sem]) <;> omega)
    · intro w1' hb; exact (cloOf _ _ b hB _ _ _ _ (.ok ⟨b.px - b.sx, b.py - b.sx, b.px + b.sx, b.py + b.sx⟩) E.out w1' (M.Var.mono (b := w.heap.size) (cs := #[.int .i64 b.shape, .int .i64 b.sx, .int .i64 b.sy, .int .i64 b.mass, .int .i64 b.px, .int .i64 b.py, .int .i64 b.mx, .int .i64 b.my]) (by (repeat (first | (with_reducible assumption) | (refine M.var_alloc' _ _ _ ?_; first | rfl | (simp [go_sem]; done)) | (with_reducible refine M.Var.alloc ?_ _) | (with_reducible refine M.Var.drewN ?_ _) | (with_reducible refine M.Var.drew ?_) | (with_reducible refine M.Var.far ?_ _ _ ?h; case h => (first | omega | ((try simp [go_sem]) <;> omega))) | fail))) hb) (M.Var.mono (b := w2.heap.size) (cs := #[.int .i64 0, .int .i64 0, .int .i64 0, .int .i64 0]) (by (repeat (first | (with_reducible assumption) | (refine M.var_alloc' _ _ _ ?_; first | rfl | (simp [go_sem]; done)) | (with_reducible refine M.Var.alloc ?_ _) | (with_reducible refine M.Var.drewN ?_ _) | (with_reducible refine M.Var.drew ?_) | (with_reducible refine M.Var.far ?_ _ _ ?h; case h => (first | omega | ((try simp [go_sem]) <;> omega))) | fail))) hb)).mono fun e w' h => h
    rintro en w3 ⟨rfl, hb⟩
    have G3 : Below w.heap.size w w3 := Below.trans (M.below_sets_own (usBx (w2.heap.size) (.ok ⟨b.px - b.sx, b.py - b.sx, b.px + b.sx, b.py + b.sx⟩)) (by (repeat (with_reducible refine M.Below.drewN ?_ _)); go_grown) (by intro u hu; (try simp only [List.mem_append] at hu); (repeat' (obtain hu | hu := (hu : _ ∨ _))); all_goals (first | rw [M.usBx_block hu] | rw [M.usV_block hu] | rw [M.usI_block hu] | rw [M.usHt_block hu] | rw [M.usBd_block hu] | rw [M.cell_block1 hu] | (exfalso; simp at hu; done)); all_goals ((try simp [go_sem]) <;> omega))) (hb.mono (by go_size))
    have V3_b : M.Var w3 (w.heap.size) #[.int .i64 b.shape, .int .i64 b.sx, .int .i64 b.sy, .int .i64 b.mass, .int .i64 b.px, .int .i64 b.py, .int .i64 b.mx, .int .i64 b.my] := M.Var.mono' (u := M.sets _ (usBx (w2.heap.size) (.ok ⟨b.px - b.sx, b.py - b.sx, b.px + b.sx, b.py + b.sx⟩))) (by (try simp only [M.sets_append]); exact (M.var_sets_far (usBx (w2.heap.size) (.ok ⟨b.px - b.sx, b.py - b.sx, b.px + b.sx, b.py + b.sx⟩)) (by (repeat (first | (with_reducible assumption) | (refine M.var_alloc' _ _ _ ?_; first | rfl | (simp [go_sem]; done)) | (with_reducible refine M.Var.alloc ?_ _) | (with_reducible refine M.Var.drewN ?_ _) | (with_reducible refine M.Var.drew ?_) | (with_reducible refine M.Var.far ?_ _ _ ?h; case h => (first | omega | ((try simp [go_sem]) <;> omega))) | fail)) : M.Var _ (w.heap.size) #[.int .i64 b.shape, .int .i64 b.sx, .int .i64 b.sy, .int .i64 b.mass, .int .i64 b.px, .int .i64 b.py, .int .i64 b.mx, .int .i64 b.my]) (by intro u hu; all_goals (first | rw [M.usBx_block hu] | rw [M.usV_block hu] | rw [M.usI_block hu] | rw [M.usHt_block hu] | rw [M.usBd_block hu] | rw [M.cell_block1 hu] | (exfalso; simp at hu; done)); all_goals ((try simp [go_sem]) <;> omega)))) (M.sets_size _ _) hb
    have V3_o : M.Var w3 (w2.heap.size) #[.int .i64 (b.px - b.sx), .int .i64 (b.py - b.sx), .int .i64 (b.px + b.sx), .int .i64 (b.py + b.sx)] := M.Var.mono' (u := M.sets _ (usBx (w2.heap.size) (.ok ⟨b.px - b.sx, b.py - b.sx, b.px + b.sx, b.py + b.sx⟩))) (by (try simp only [M.sets_append]); exact (M.var_setBx (by (repeat (first | (with_reducible assumption) | (refine M.var_alloc' _ _ _ ?_; first | rfl | (simp [go_sem]; done)) | (with_reducible refine M.Var.alloc ?_ _) | (with_reducible refine M.Var.drewN ?_ _) | (with_reducible refine M.Var.drew ?_) | (with_reducible refine M.Var.far ?_ _ _ ?h; case h => (first | omega | ((try simp [go_sem]) <;> omega))) | fail)) : M.Var _ (w2.heap.size) #[.int .i64 0, .int .i64 0, .int .i64 0, .int .i64 0]) _ _ _ _)) (M.sets_size _ _) hb
    have q3_b_0 := V3_b.c 0 _ rfl
    have q3_b_1 := V3_b.c 1 _ rfl
    have q3_b_2 := V3_b.c 2 _ rfl
    have q3_b_3 := V3_b.c 3 _ rfl
    have q3_b_4 := V3_b.c 4 _ rfl
    have q3_b_5 := V3_b.c 5 _ rfl
    have q3_b_6 := V3_b.c 6 _ rfl
    have q3_b_7 := V3_b.c 7 _ rfl
    have f3_b := V3_b.2.2; have L3_b := V3_b.lt; have N3_b := Nat.ne_of_gt L3_b; have M3_b := Nat.ne_of_lt L3_b
    have HV3_b := Lib.hid V3_b
    have q3_o_0 := V3_o.c 0 _ rfl
    have q3_o_1 := V3_o.c 1 _ rfl
    have q3_o_2 := V3_o.c 2 _ rfl
    have q3_o_3 := V3_o.c 3 _ rfl
    have f3_o := V3_o.2.2; have L3_o := V3_o.lt; have N3_o := Nat.ne_of_gt L3_o; have M3_o := Nat.ne_of_lt L3_o
    have HV3_o := Lib.hid V3_o
    have S3 := G3.size; clear hb
    go_wp2_with fail
    all_goals try (exfalso; have k := beq_eq_false_iff_ne.1 (by assumption); omega)
    (with_reducible refine (C5.out _).mono ?_); rintro en w4 ⟨rfl, hb⟩
    have G4 : Below w.heap.size w w4 := Below.trans (by (repeat (with_reducible refine M.Below.drewN ?_ _)); go_grown) (hb.mono (by go_size))
    have V4_b : M.Var w4 (w.heap.size) #[.int .i64 b.shape, .int .i64 b.sx, .int .i64 b.sy, .int .i64 b.mass, .int .i64 b.px, .int .i64 b.py, .int .i64 b.mx, .int .i64 b.my] := M.Var.mono (by (repeat (first | (with_reducible assumption) | (refine M.var_alloc' _ _ _ ?_; first | rfl | (simp [go_sem]; done)) | (with_reducible refine M.Var.alloc ?_ _) | (with_reducible refine M.Var.drewN ?_ _) | (with_reducible refine M.Var.drew ?_) | (with_reducible refine M.Var.far ?_ _ _ ?h; case h => (first | omega | ((try simp [go_sem]) <;> omega))) | fail))) hb
    have V4_o : M.Var w4 (w2.heap.size) #[.int .i64 (b.px - b.sx), .int .i64 (b.py - b.sx), .int .i64 (b.px + b.sx), .int .i64 (b.py + b.sx)] := M.Var.mono (by (repeat (first | (with_reducible assumption) | (refine M.var_alloc' _ _ _ ?_; first | rfl | (simp [go_sem]; done)) | (with_reducible refine M.Var.alloc ?_ _) | (with_reducible refine M.Var.drewN ?_ _) | (with_reducible refine M.Var.drew ?_) | (with_reducible refine M.Var.far ?_ _ _ ?h; case h => (first | omega | ((try simp [go_sem]) <;> omega))) | fail))) hb
    have q4_b_0 := V4_b.c 0 _ rfl
    have q4_b_1 := V4_b.c 1 _ rfl
    have q4_b_2 := V4_b.c 2 _ rfl
    have q4_b_3 := V4_b.c 3 _ rfl
    have q4_b_4 := V4_b.c 4 _ rfl
    have q4_b_5 := V4_b.c 5 _ rfl
    have q4_b_6 := V4_b.c 6 _ rfl
    have q4_b_7 := V4_b.c 7 _ rfl
    have f4_b := V4_b.2.2; have L4_b := V4_b.lt; have N4_b := Nat.ne_of_gt L4_b; have M4_b := Nat.ne_of_lt L4_b
    have HV4_b := Lib.hid V4_b
    have q4_o_0 := V4_o.c 0 _ rfl
    have q4_o_1 := V4_o.c 1 _ rfl
    have q4_o_2 := V4_o.c 2 _ rfl
    have q4_o_3 := V4_o.c 3 _ rfl
    have f4_o := V4_o.2.2; have L4_o := V4_o.lt; have N4_o := Nat.ne_of_gt L4_o; have M4_o := Nat.ne_of_lt L4_o
    have HV4_o := Lib.hid V4_o
    have S4 := G4.size; clear hb
    go_wp2_with fail
    (with_reducible refine (C6.out _).mono ?_); rintro en w5 ⟨rfl, hb⟩
    have G5 : Below w.heap.size w w5 := Below.trans (by (repeat (with_reducible refine M.Below.drewN ?_ _)); go_grown) (hb.mono (by go_size))
    have V5_b : M.Var w5 (w.heap.size) #[.int .i64 b.shape, .int .i64 b.sx, .int .i64 b.sy, .int .i64 b.mass, .int .i64 b.px, .int .i64 b.py, .int .i64 b.mx, .int .i64 b.my] := M.Var.mono (by (repeat (first | (with_reducible assumption) | (refine M.var_alloc' _ _ _ ?_; first | rfl | (simp [go_sem]; done)) | (with_reducible refine M.Var.alloc ?_ _) | (with_reducible refine M.Var.drewN ?_ _) | (with_reducible refine M.Var.drew ?_) | (with_reducible refine M.Var.far ?_ _ _ ?h; case h => (first | omega | ((try simp [go_sem]) <;> omega))) | fail))) hb
    have V5_o : M.Var w5 (w2.heap.size) #[.int .i64 (b.px - b.sx), .int .i64 (b.py - b.sx), .int .i64 (b.px + b.sx), .int .i64 (b.py + b.sx)] := M.Var.mono (by (repeat (first | (with_reducible assumption) | (refine M.var_alloc' _ _ _ ?_; first | rfl | (simp [go_sem]; done)) | (with_reducible refine M.Var.alloc ?_ _) | (with_reducible refine M.Var.drewN ?_ _) | (with_reducible refine M.Var.drew ?_) | (with_reducible refine M.Var.far ?_ _ _ ?h; case h => (first | omega | ((try simp [go_sem]) <;> omega))) | fail))) hb
    have q5_b_0 := V5_b.c 0 _ rfl
    have q5_b_1 := V5_b.c 1 _ rfl
    have q5_b_2 := V5_b.c 2 _ rfl
    have q5_b_3 := V5_b.c 3 _ rfl
    have q5_b_4 := V5_b.c 4 _ rfl
    have q5_b_5 := V5_b.c 5 _ rfl
    have q5_b_6 := V5_b.c 6 _ rfl
    have q5_b_7 := V5_b.c 7 _ rfl
    have f5_b := V5_b.2.2; have L5_b := V5_b.lt; have N5_b := Nat.ne_of_gt L5_b; have M5_b := Nat.ne_of_lt L5_b
    have HV5_b := Lib.hid V5_b
    have q5_o_0 := V5_o.c 0 _ rfl
    have q5_o_1 := V5_o.c 1 _ rfl
    have q5_o_2 := V5_o.c 2 _ rfl
    have q5_o_3 := V5_o.c 3 _ rfl
    have f5_o := V5_o.2.2; have L5_o := V5_o.lt; have N5_o := Nat.ne_of_gt L5_o; have M5_o := Nat.ne_of_lt L5_o
    have HV5_o := Lib.hid V5_o
    have S5 := G5.size; clear hb
    go_wp2_with fail
    go_ret
    exact ⟨rfl, by (repeat (with_reducible refine M.Below.drewN ?_ _)); go_grown⟩
  · have hq := beq_eq_false_iff_ne.2 h1
    rw [show boxV b = ⟨b.px - b.sx, b.py - b.sy, b.px + b.sx, b.py + b.sy⟩ by unfold boxV half; rw [if_neg h1]] at e
    have E := Lib.hid e
    have s6 : 67108864 ≤ b.sy ∧ b.sy ≤ 4294967296000 := by omega
    clear e h1 s1
    have c5 := in_bx_x b.px b.py ⟨b.px - b.sx, b.py - b.sy, b.px + b.sx, b.py + b.sy⟩
    have c6 := meet_x ⟨b.px - b.sx, b.py - b.sy, b.px + b.sx, b.py + b.sy⟩ ⟨b.px - b.sx, b.py - b.sy, b.px + b.sx, b.py + b.sy⟩
    rw [show inBx (b.px, b.py) ⟨b.px - b.sx, b.py - b.sy, b.px + b.sx, b.py + b.sy⟩ = true by unfold inBx; simp only [Bool.and_eq_true, decide_eq_true_eq]; omega] at c5
    rw [show meetB ⟨b.px - b.sx, b.py - b.sy, b.px + b.sx, b.py + b.sy⟩ ⟨b.px - b.sx, b.py - b.sy, b.px + b.sx, b.py + b.sy⟩ = true by rw [meetB_iff]; dsimp only; omega] at c6
    have C5 := Lib.hid c5; have C6 := Lib.hid c6
    clear c5 c6
    go_enter Try.func4, Try.ntmps4
    go_wp2_with fail
    (with_reducible refine (C1.out _).mono ?_); rintro en w1 ⟨rfl, hb⟩
    have G1 : Below w.heap.size w w1 := Below.trans (by (repeat (with_reducible refine M.Below.drewN ?_ _)); go_grown) (hb.mono (by go_size))
    have V1_b : M.Var w1 (w.heap.size) #[.int .i64 b.shape, .int .i64 b.sx, .int .i64 b.sy, .int .i64 b.mass, .int .i64 b.px, .int .i64 b.py, .int .i64 b.mx, .int .i64 b.my] := M.Var.mono (by (repeat (first | (with_reducible assumption) | (refine M.var_alloc' _ _ _ ?_; first | rfl | (simp [go_sem]; done)) | (with_reducible refine M.Var.alloc ?_ _) | (with_reducible refine M.Var.drewN ?_ _) | (with_reducible refine M.Var.drew ?_) | (with_reducible refine M.Var.far ?_ _ _ ?h; case h => (first | omega | ((try simp [go_sem]) <;> omega))) | fail))) hb
    have q1_b_0 := V1_b.c 0 _ rfl
    have q1_b_1 := V1_b.c 1 _ rfl
    have q1_b_2 := V1_b.c 2 _ rfl
    have q1_b_3 := V1_b.c 3 _ rfl
    have q1_b_4 := V1_b.c 4 _ rfl
    have q1_b_5 := V1_b.c 5 _ rfl
    have q1_b_6 := V1_b.c 6 _ rfl
    have q1_b_7 := V1_b.c 7 _ rfl
    have f1_b := V1_b.2.2; have L1_b := V1_b.lt; have N1_b := Nat.ne_of_gt L1_b; have M1_b := Nat.ne_of_lt L1_b
    have HV1_b := Lib.hid V1_b
    have S1 := G1.size; clear hb
    go_wp2_with fail
    (with_reducible refine (c0.out _).mono ?_); rintro en w2 ⟨rfl, hb⟩
    have G2 : Below w.heap.size w w2 := Below.trans (by (repeat (with_reducible refine M.Below.drewN ?_ _)); go_grown) (hb.mono (by go_size))
    have V2_b : M.Var w2 (w.heap.size) #[.int .i64 b.shape, .int .i64 b.sx, .int .i64 b.sy, .int .i64 b.mass, .int .i64 b.px, .int .i64 b.py, .int .i64 b.mx, .int .i64 b.my] := M.Var.mono (by (repeat (first | (with_reducible assumption) | (refine M.var_alloc' _ _ _ ?_; first | rfl | (simp [go_sem]; done)) | (with_reducible refine M.Var.alloc ?_ _) | (with_reducible refine M.Var.drewN ?_ _) | (with_reducible refine M.Var.drew ?_) | (with_reducible refine M.Var.far ?_ _ _ ?h; case h => (first | omega | ((try simp [go_sem]) <;> omega))) | fail))) hb
    have q2_b_0 := V2_b.c 0 _ rfl
    have q2_b_1 := V2_b.c 1 _ rfl
    have q2_b_2 := V2_b.c 2 _ rfl
    have q2_b_3 := V2_b.c 3 _ rfl
    have q2_b_4 := V2_b.c 4 _ rfl
    have q2_b_5 := V2_b.c 5 _ rfl
    have q2_b_6 := V2_b.c 6 _ rfl
    have q2_b_7 := V2_b.c 7 _ rfl
    have f2_b := V2_b.2.2; have L2_b := V2_b.lt; have N2_b := Nat.ne_of_gt L2_b; have M2_b := Nat.ne_of_lt L2_b
    have HV2_b := Lib.hid V2_b
    have S2 := G2.size; clear hb
    go_wp2_with fail
    refine (try_c 47 #[.pointer (some ⟨w.heap.size, 0, none⟩), .pointer (some ⟨w2.heap.size, 0, none⟩)] _ (0) (usBx (w2.heap.size) (.ok ⟨b.px - b.sx, b.py - b.sy, b.px + b.sx, b.py + b.sy⟩)) (fun _ => rfl) ?_ ?_).mono ?_
    · intro u hu; (try simp only [List.mem_append] at hu); (repeat' (obtain hu | hu := (hu : _ ∨ _))); all_goals (first | rw [M.usBx_block hu] | rw [M.usV_block hu] | rw [M.usI_block hu] | rw [M.usHt_block hu] | rw [M.usBd_block hu] | rw [M.cell_block1 hu] | (exfalso; simp at hu; done)); all_goals ((try simp [go_sem]) <;> omega)
    · intro w1' hb; exact (cloOf _ _ b hB _ _ _ _ (.ok ⟨b.px - b.sx, b.py - b.sy, b.px + b.sx, b.py + b.sy⟩) E.out w1' (M.Var.mono (b := w.heap.size) (cs := #[.int .i64 b.shape, .int .i64 b.sx, .int .i64 b.sy, .int .i64 b.mass, .int .i64 b.px, .int .i64 b.py, .int .i64 b.mx, .int .i64 b.my]) (by (repeat (first | (with_reducible assumption) | (refine M.var_alloc' _ _ _ ?_; first | rfl | (simp [go_sem]; done)) | (with_reducible refine M.Var.alloc ?_ _) | (with_reducible refine M.Var.drewN ?_ _) | (with_reducible refine M.Var.drew ?_) | (with_reducible refine M.Var.far ?_ _ _ ?h; case h => (first | omega | ((try simp [go_sem]) <;> omega))) | fail))) hb) (M.Var.mono (b := w2.heap.size) (cs := #[.int .i64 0, .int .i64 0, .int .i64 0, .int .i64 0]) (by (repeat (first | (with_reducible assumption) | (refine M.var_alloc' _ _ _ ?_; first | rfl | (simp [go_sem]; done)) | (with_reducible refine M.Var.alloc ?_ _) | (with_reducible refine M.Var.drewN ?_ _) | (with_reducible refine M.Var.drew ?_) | (with_reducible refine M.Var.far ?_ _ _ ?h; case h => (first | omega | ((try simp [go_sem]) <;> omega))) | fail))) hb)).mono fun e w' h => h
    rintro en w3 ⟨rfl, hb⟩
    have G3 : Below w.heap.size w w3 := Below.trans (M.below_sets_own (usBx (w2.heap.size) (.ok ⟨b.px - b.sx, b.py - b.sy, b.px + b.sx, b.py + b.sy⟩)) (by (repeat (with_reducible refine M.Below.drewN ?_ _)); go_grown) (by intro u hu; (try simp only [List.mem_append] at hu); (repeat' (obtain hu | hu := (hu : _ ∨ _))); all_goals (first | rw [M.usBx_block hu] | rw [M.usV_block hu] | rw [M.usI_block hu] | rw [M.usHt_block hu] | rw [M.usBd_block hu] | rw [M.cell_block1 hu] | (exfalso; simp at hu; done)); all_goals ((try simp [go_sem]) <;> omega))) (hb.mono (by go_size))
    have V3_b : M.Var w3 (w.heap.size) #[.int .i64 b.shape, .int .i64 b.sx, .int .i64 b.sy, .int .i64 b.mass, .int .i64 b.px, .int .i64 b.py, .int .i64 b.mx, .int .i64 b.my] := M.Var.mono' (u := M.sets _ (usBx (w2.heap.size) (.ok ⟨b.px - b.sx, b.py - b.sy, b.px + b.sx, b.py + b.sy⟩))) (by (try simp only [M.sets_append]); exact (M.var_sets_far (usBx (w2.heap.size) (.ok ⟨b.px - b.sx, b.py - b.sy, b.px + b.sx, b.py + b.sy⟩)) (by (repeat (first | (with_reducible assumption) | (refine M.var_alloc' _ _ _ ?_; first | rfl | (simp [go_sem]; done)) | (with_reducible refine M.Var.alloc ?_ _) | (with_reducible refine M.Var.drewN ?_ _) | (with_reducible refine M.Var.drew ?_) | (with_reducible refine M.Var.far ?_ _ _ ?h; case h => (first | omega | ((try simp [go_sem]) <;> omega))) | fail)) : M.Var _ (w.heap.size) #[.int .i64 b.shape, .int .i64 b.sx, .int .i64 b.sy, .int .i64 b.mass, .int .i64 b.px, .int .i64 b.py, .int .i64 b.mx, .int .i64 b.my]) (by intro u hu; all_goals (first | rw [M.usBx_block hu] | rw [M.usV_block hu] | rw [M.usI_block hu] | rw [M.usHt_block hu] | rw [M.usBd_block hu] | rw [M.cell_block1 hu] | (exfalso; simp at hu; done)); all_goals ((try simp [go_sem]) <;> omega)))) (M.sets_size _ _) hb
    have V3_o : M.Var w3 (w2.heap.size) #[.int .i64 (b.px - b.sx), .int .i64 (b.py - b.sy), .int .i64 (b.px + b.sx), .int .i64 (b.py + b.sy)] := M.Var.mono' (u := M.sets _ (usBx (w2.heap.size) (.ok ⟨b.px - b.sx, b.py - b.sy, b.px + b.sx, b.py + b.sy⟩))) (by (try simp only [M.sets_append]); exact (M.var_setBx (by (repeat (first | (with_reducible assumption) | (refine M.var_alloc' _ _ _ ?_; first | rfl | (simp [go_sem]; done)) | (with_reducible refine M.Var.alloc ?_ _) | (with_reducible refine M.Var.drewN ?_ _) | (with_reducible refine M.Var.drew ?_) | (with_reducible refine M.Var.far ?_ _ _ ?h; case h => (first | omega | ((try simp [go_sem]) <;> omega))) | fail)) : M.Var _ (w2.heap.size) #[.int .i64 0, .int .i64 0, .int .i64 0, .int .i64 0]) _ _ _ _)) (M.sets_size _ _) hb
    have q3_b_0 := V3_b.c 0 _ rfl
    have q3_b_1 := V3_b.c 1 _ rfl
    have q3_b_2 := V3_b.c 2 _ rfl
    have q3_b_3 := V3_b.c 3 _ rfl
    have q3_b_4 := V3_b.c 4 _ rfl
    have q3_b_5 := V3_b.c 5 _ rfl
    have q3_b_6 := V3_b.c 6 _ rfl
    have q3_b_7 := V3_b.c 7 _ rfl
    have f3_b := V3_b.2.2; have L3_b := V3_b.lt; have N3_b := Nat.ne_of_gt L3_b; have M3_b := Nat.ne_of_lt L3_b
    have HV3_b := Lib.hid V3_b
    have q3_o_0 := V3_o.c 0 _ rfl
    have q3_o_1 := V3_o.c 1 _ rfl
    have q3_o_2 := V3_o.c 2 _ rfl
    have q3_o_3 := V3_o.c 3 _ rfl
    have f3_o := V3_o.2.2; have L3_o := V3_o.lt; have N3_o := Nat.ne_of_gt L3_o; have M3_o := Nat.ne_of_lt L3_o
    have HV3_o := Lib.hid V3_o
    have S3 := G3.size; clear hb
    go_wp2_with fail
    all_goals try (exfalso; have k := beq_eq_false_iff_ne.1 (by assumption); omega)
    (with_reducible refine (C5.out _).mono ?_); rintro en w4 ⟨rfl, hb⟩
    have G4 : Below w.heap.size w w4 := Below.trans (by (repeat (with_reducible refine M.Below.drewN ?_ _)); go_grown) (hb.mono (by go_size))
    have V4_b : M.Var w4 (w.heap.size) #[.int .i64 b.shape, .int .i64 b.sx, .int .i64 b.sy, .int .i64 b.mass, .int .i64 b.px, .int .i64 b.py, .int .i64 b.mx, .int .i64 b.my] := M.Var.mono (by (repeat (first | (with_reducible assumption) | (refine M.var_alloc' _ _ _ ?_; first | rfl | (simp [go_sem]; done)) | (with_reducible refine M.Var.alloc ?_ _) | (with_reducible refine M.Var.drewN ?_ _) | (with_reducible refine M.Var.drew ?_) | (with_reducible refine M.Var.far ?_ _ _ ?h; case h => (first | omega | ((try simp [go_sem]) <;> omega))) | fail))) hb
    have V4_o : M.Var w4 (w2.heap.size) #[.int .i64 (b.px - b.sx), .int .i64 (b.py - b.sy), .int .i64 (b.px + b.sx), .int .i64 (b.py + b.sy)] := M.Var.mono (by (repeat (first | (with_reducible assumption) | (refine M.var_alloc' _ _ _ ?_; first | rfl | (simp [go_sem]; done)) | (with_reducible refine M.Var.alloc ?_ _) | (with_reducible refine M.Var.drewN ?_ _) | (with_reducible refine M.Var.drew ?_) | (with_reducible refine M.Var.far ?_ _ _ ?h; case h => (first | omega | ((try simp [go_sem]) <;> omega))) | fail))) hb
    have q4_b_0 := V4_b.c 0 _ rfl
    have q4_b_1 := V4_b.c 1 _ rfl
    have q4_b_2 := V4_b.c 2 _ rfl
    have q4_b_3 := V4_b.c 3 _ rfl
    have q4_b_4 := V4_b.c 4 _ rfl
    have q4_b_5 := V4_b.c 5 _ rfl
    have q4_b_6 := V4_b.c 6 _ rfl
    have q4_b_7 := V4_b.c 7 _ rfl
    have f4_b := V4_b.2.2; have L4_b := V4_b.lt; have N4_b := Nat.ne_of_gt L4_b; have M4_b := Nat.ne_of_lt L4_b
    have HV4_b := Lib.hid V4_b
    have q4_o_0 := V4_o.c 0 _ rfl
    have q4_o_1 := V4_o.c 1 _ rfl
    have q4_o_2 := V4_o.c 2 _ rfl
    have q4_o_3 := V4_o.c 3 _ rfl
    have f4_o := V4_o.2.2; have L4_o := V4_o.lt; have N4_o := Nat.ne_of_gt L4_o; have M4_o := Nat.ne_of_lt L4_o
    have HV4_o := Lib.hid V4_o
    have S4 := G4.size; clear hb
    go_wp2_with fail
    (with_reducible refine (C6.out _).mono ?_); rintro en w5 ⟨rfl, hb⟩
    have G5 : Below w.heap.size w w5 := Below.trans (by (repeat (with_reducible refine M.Below.drewN ?_ _)); go_grown) (hb.mono (by go_size))
    have V5_b : M.Var w5 (w.heap.size) #[.int .i64 b.shape, .int .i64 b.sx, .int .i64 b.sy, .int .i64 b.mass, .int .i64 b.px, .int .i64 b.py, .int .i64 b.mx, .int .i64 b.my] := M.Var.mono (by (repeat (first | (with_reducible assumption) | (refine M.var_alloc' _ _ _ ?_; first | rfl | (simp [go_sem]; done)) | (with_reducible refine M.Var.alloc ?_ _) | (with_reducible refine M.Var.drewN ?_ _) | (with_reducible refine M.Var.drew ?_) | (with_reducible refine M.Var.far ?_ _ _ ?h; case h => (first | omega | ((try simp [go_sem]) <;> omega))) | fail))) hb
    have V5_o : M.Var w5 (w2.heap.size) #[.int .i64 (b.px - b.sx), .int .i64 (b.py - b.sy), .int .i64 (b.px + b.sx), .int .i64 (b.py + b.sy)] := M.Var.mono (by (repeat (first | (with_reducible assumption) | (refine M.var_alloc' _ _ _ ?_; first | rfl | (simp [go_sem]; done)) | (with_reducible refine M.Var.alloc ?_ _) | (with_reducible refine M.Var.drewN ?_ _) | (with_reducible refine M.Var.drew ?_) | (with_reducible refine M.Var.far ?_ _ _ ?h; case h => (first | omega | ((try simp [go_sem]) <;> omega))) | fail))) hb
    have q5_b_0 := V5_b.c 0 _ rfl
    have q5_b_1 := V5_b.c 1 _ rfl
    have q5_b_2 := V5_b.c 2 _ rfl
    have q5_b_3 := V5_b.c 3 _ rfl
    have q5_b_4 := V5_b.c 4 _ rfl
    have q5_b_5 := V5_b.c 5 _ rfl
    have q5_b_6 := V5_b.c 6 _ rfl
    have q5_b_7 := V5_b.c 7 _ rfl
    have f5_b := V5_b.2.2; have L5_b := V5_b.lt; have N5_b := Nat.ne_of_gt L5_b; have M5_b := Nat.ne_of_lt L5_b
    have HV5_b := Lib.hid V5_b
    have q5_o_0 := V5_o.c 0 _ rfl
    have q5_o_1 := V5_o.c 1 _ rfl
    have q5_o_2 := V5_o.c 2 _ rfl
    have q5_o_3 := V5_o.c 3 _ rfl
    have f5_o := V5_o.2.2; have L5_o := V5_o.lt; have N5_o := Nat.ne_of_gt L5_o; have M5_o := Nat.ne_of_lt L5_o
    have HV5_o := Lib.hid V5_o
    have S5 := G5.size; clear hb
    go_wp2_with fail
    go_ret
    exact ⟨rfl, by (repeat (with_reducible refine M.Below.drewN ?_ _)); go_grown⟩

theorem lifted (os : Os) (started : os.Started) (H : Type) (enc : TypeId × Value → H) :
    ReturnsInHanded {} Try.checked os 4 .any (Rows.boundsOfSpec.pre6 enc Try.prog Try.f4 Rows.boundsOfRow.domain false) (Rows.boundsOfSpec.post enc Try.prog Try.f4 false true false false) := by
  refine returnsInHanded_of_change (C := Try.checked) own started (by kernel_rfl) Try.func4
    (ChangeSpec.witness6 (enc := enc) (C := Try.checked) false ⟨#[], #[.agg #[.int .i64 0, .int .i64 0, .int .i64 0, .int .i64 0, .int .i64 0, .int .i64 0, .int .i64 0, .int .i64 0]], []⟩ 8 (by kernel_rfl) (by kernel_rfl) (by kernel_rfl) (by kernel_rfl)) ?_
  intro W base args ds gs before hval0 hW hcnd _
  have hval : ∀ (j : Nat) t v, Try.f4.params[j]? = some t → args[j]? = some v → Value.okWide Try.prog W .any base t v := hval0
  have hW' := hW
  obtain ⟨p, q, hA0, hV, rfl, hfz, hnd⟩ := hW
  have hA : DataW.TrodAll enc Try.prog W 0 (fun _ => true) true Try.f4.params.toList args.toList ds p := hA0
  rw [Try.params4] at hA hval
  obtain ⟨v0, vs0, d0, ds0, p0, q0, hargs, rfl, rfl, h0, r0⟩ := trodAll_cons hA
  obtain ⟨rfl, rfl, rfl⟩ := trodAll_nil r0
  obtain rfl : args = #[v0] := by cases args; simp_all
  obtain ⟨rfl, rfl⟩ := trodVars_none hV
  obtain ⟨b, rfl, rfl, rfl, wb⟩ := open_body (hval 0 33 v0 rfl rfl) h0
  clear hA0 hval0
  simp only [List.append_nil] at hW'
  refine (walk b wb.ok W).mono fun e W' ⟨he, hg⟩ => ?_
  subst he
  exact ⟨_, rfl, post_below (pa := []) (pv := []) hW' (fun _ _ _ => (trodAll_cons_mk (shut_bool Try.underlying4 _) trodAll_mk0)) (fun sp _ => (trodAll_cons_mk (shut_body wb) trodAll_mk0)) (fun _ _ => rfl) rfl
    hg (ok_one (by kernel_rfl) rfl (okWide_bool_mk Try.underlying4 _))⟩

theorem closed : joinedFacts Try.prog 4 Try.f4 Rows.boundsOfSpec Rows.boundsOfRow = true := by
  unfold joinedFacts
  rw [fact_laid, fact_maps, fact_keys, fact_heard, fact_stops, fact_knobs, fact_enter, fact_lifts, fact_make]
  kernel_rfl

theorem over : Rows.boundsOfRow.holds Try.pinned (OpenSpec.ofChange Rows.boundsOfSpec) :=
  OpenClaim.holds_of_wide 4 Try.f4 rfl rfl rfl rfl rfl rfl rfl ⟨rfl, rfl, rfl, rfl, rfl⟩ rfl rfl rfl rfl rfl (by kernel_rfl) Try.func4 closed
    (of_decide_eq_true (by kernel_rfl)) (by unfold Func.isWrapper; first | (rw [if_pos (by decide +kernel)]; kernel_rfl) | (rw [if_neg (by decide +kernel)]; exact ⟨rfl, rfl⟩))
    (fun os started H enc _ => lifted os started H enc)

/-- The statement. -/
theorem proved : Rows.BoundsOfSaid :=
  over
#print axioms proved
end Go.Proofs.Ytaagpkacningdaa.boundsOf
